import PyProof.Rows.All
import Wide.All
import OpenK.AllK
import Wide.FinOn
import KE.KExcSuper
import KE.KExcInit
import HandS.ForMost
import HandS.Exc
import HandS.ExcSuper
import HandS.ExcInit
import KE.KStateDown
import Lean
import HandS.Defaults
import HandS.Lambda
import HandS.EndTab
import HandS.HeadWalk
import HandS.Head0
import HandS.Head1
import HandS.Head2
import HandS.HeadEnd
import HandS.HeadHook1
import HandS.HeadHook2
import HandS.HeadHook4
import KE.GoesMore
import HandS.Walk
import HandS.Conv
import HandS.Zip
import HandS.IsInst
import HandS.TupLe
import HandS.TupAny
import HandS.Steps
import HandS.Flow
import HandS.ExcField
import HandS.Deep
import PySem.Challenge.RW_wholied_k01_whole_texts_cut_into_groups
set_option Elab.async false
set_option linter.all false
set_option maxRecDepth 100000
set_option maxHeartbeats 2000000
/-! WErr: an own exception whose __init__ says super().__init__(text) and then stores its parameters, by their names. -/
namespace Wh
open PySem PySem.W PySem.Calls PyProof.Rows Builtin Builtin.ObjectAttr

abbrev exT : List Value := [.type "Exception", .type "BaseException", .type "object"]
abbrev xObj (C t : Addr) (d : Option Addr) : Obj := { cls := .ref C, dict := d, data := .fields #[.ref t, .none, .none, .none, .bool false, .none] }

/-- self.f = f, for each of some names -/
inductive Stores : List Stmt → List Str → Prop
  | nil : Stores [] []
  | cons {f : Str} {p1 p2 p3 p4 : Pos} {r : List Stmt} {fs : List Str} : Stores r fs → Stores (.Assign [.Attribute (.Name "self" p1) f p2] (.Name f p3) p4 :: r) (f :: fs)

/-- what the written part says of the class at C -/
structure ErrC (K : Frag) (C : Addr) (fs : List Str) : Prop where
  ini : excInitIn K C exT "Exception.__new__" = true
  over : excOver K C exT = true
  sa : findIn K (.ref C) "__setattr__" = some (some (.builtin "object.__setattr__"))
  hd : hasDictIn K C = true
  no : ∀ f ∈ fs, findIn K (.ref C) f = some none
  ex : subIn K (.ref C) (.type "BaseException") = some true
  exE : subIn K (.ref C) (.type "Exception") = some true
  ty : typeIn K (.ref C) = some (.type "type")
  kp : keepIn K (.ref C) = true
theorem taker_none {K : Frag} {C : Addr} {f : Str} (n : findIn K (.ref C) f = some none) : takerIn K C f = some none := by
  unfold takerIn
  rw [n]
  rfl

section
variable {prog : Program} {w : World} {A : Around} {E : Value → Shared → Prop} {K : Frag} {C : Addr} {fs : List Str}
/-- the first store: the dict is made -/
theorem st_first (T : ErrC K C fs) {f : Str} {v : Value} {x t1 : Addr} {s : Shared} {Q : Unit → Shared → Prop} (X : K.In s.heap) (hf : f ∈ fs) (hx : s.heap.get? x = some (xObj C t1 none))
    (hq : ∀ h' tk dx, (∀ b o, b ≠ x → s.heap.get? b = some o → h'.get? b = some o) → s.heap.objs.size ≤ dx → dx ≠ x → h'.get? x = some (xObj C t1 (some dx)) →
      h'.Ns1 dx (fun y => if y = f then some v else none) → Q () { s with heap := h', toks := tk }) :
    wpAny (model prog w) A (setAttr (.ref x) f v) Q E s := by
  obtain ⟨cd, hcd, hh⟩ := any_some T.hd
  refine set_plain (od := none) X ⟨hx, rfl, rfl, trivial⟩ T.sa ?_
  refine osa_openX (s := { s with toks := s.toks + 1 }) (od := none) PySem.F.store_Exception X ⟨hx, rfl, rfl, trivial⟩ T.over (taker_none (T.no f hf)) fun b => ?_
  have hcls : Looks (model prog w) s.heap (classData C) cd := looks_clsIn X hcd
  obtain ⟨hp, g, d, tk, os⟩ := s
  have hxs : x ≠ hp.objs.size := Nat.ne_of_lt (Heap.lt_size hx)
  obtain ⟨nm, bs, mro, ns, qn, hd, sn, sb, ab, col, del⟩ := cd
  dsimp only at hh
  subst hh
  show wpAny _ _ (storeInOwnDict (.ref x) (.ref C) (.str f tk) f v b) _ _ _
  unfold storeInOwnDict ownDictForStores
  repeat (first | with_reducible refine HandSPX.store_in_new ?_ ?_ | with_reducible refine wpAny_loadPart_at hx ?_ | with_reducible refine hcls.at ?_ | wp_step)
  · exact ⟨_, #[], _, (Heap.get?_update_ne _ _ _ _ hxs.symm).trans (Heap.get?_push_at rfl rfl), rfl, fun e he => absurd he (by simp), fun _ => rfl⟩
  · intro h' tk' hn' hs
    have hx1 : (hp.push { cls := .type "dict", data := .dict #[] }).get? x = some (xObj C t1 none) := Heap.get?_push_of_some _ hx
    refine hq h' tk' hp.objs.size (fun b o hb ho => ?_) (Nat.le_refl _) hxs.symm ?_ hn'
    · exact (hs.2 b (Nat.ne_of_lt (Heap.lt_size ho))).trans ((Heap.get?_update_ne _ _ _ _ hb).trans (Heap.get?_push_of_some _ ho))
    · exact (hs.2 x hxs).trans (Heap.get?_update_self _ hx1 rfl)
/-- a further store -/
theorem st_more (T : ErrC K C fs) {f : Str} {v : Value} {x t1 dx : Addr} {m0 : Str → Option Value} {nl : List Str} {s : Shared} {Q : Unit → Shared → Prop} (X : K.In s.heap) (hf : f ∈ fs) (hx : s.heap.get? x = some (xObj C t1 (some dx)))
    (hns : s.heap.Ns1 dx m0) (hw : Within m0 nl) (hz : nl.length ≤ 1000)
    (hq : ∀ h' tk, (∀ b o, b ≠ dx → s.heap.get? b = some o → h'.get? b = some o) → h'.Ns1 dx (fun y => if y = f then some v else m0 y) → Q () { s with heap := h', toks := tk }) :
    wpAny (model prog w) A (setAttr (.ref x) f v) Q E s := by
  obtain ⟨cd, hcd, hh⟩ := any_some T.hd
  obtain ⟨oD, esD, epD, hoD, hdD, _⟩ := hns.count hw
  refine set_plain (od := some oD) X ⟨hx, rfl, rfl, hoD⟩ T.sa ?_
  refine osa_openX (s := { s with toks := s.toks + 1 }) (od := some oD) PySem.F.store_Exception X ⟨hx, rfl, rfl, hoD⟩ T.over (taker_none (T.no f hf)) fun b => ?_
  have hcls : Looks (model prog w) s.heap (classData C) cd := looks_clsIn X hcd
  obtain ⟨hp, g, d, tk, os⟩ := s
  obtain ⟨nm, bs, mro, ns, qn, hd, sn, sb, ab, col, del⟩ := cd
  dsimp only at hh
  subst hh
  show wpAny _ _ (storeInOwnDict (.ref x) (.ref C) (.str f tk) f v b) _ _ _
  unfold storeInOwnDict ownDictForStores
  repeat (first | with_reducible refine ESX.store_in_old hns hw hz ?_ | with_reducible refine wpAny_loadPart_at hx ?_ | with_reducible refine hcls.at ?_ | wp_step)
  intro h' tk' hn' hs
  exact hq h' tk' (fun b o hb ho => (hs.2 b hb).trans ho) hn'
end
/-- the map behind some stores -/
def putAll : List (Str × Value) → (Str → Option Value) → Str → Option Value
  | [], m => m
  | (f, u) :: r, m => putAll r fun y => if y = f then some u else m y
def flds : List Str → List L2.V → List (Str × L2.V) → List (Str × L2.V)
  | f :: fs, v :: vs, acc => flds fs vs ((f, v) :: acc)
  | _, _, acc => acc
theorem relO_putAll : ∀ {fs : List Str} {vs : List L2.V} {us : List Value} {acc : List (Str × L2.V)} {m : Str → Option Value}, L2.Vals vs us → fs.length = us.length → (∀ g, L2.RelO (acc.lookup g) (m g)) →
    ∀ g, L2.RelO ((flds fs vs acc).lookup g) (putAll (fs.zip us) m g)
  | [], _, _, _, _, .nil, _, h => h
  | f :: fs, v :: vs, u :: us, acc, m, .cons r rs, hl, h => relO_putAll (fs := fs) rs (by simpa using hl) (L2.relO_put r h)
  | [], _, _ :: _, _, _, .cons _ _, hl, _ => by simp at hl
  | _ :: _, _, _, _, _, .nil, hl, _ => by simp at hl
section
variable {prog : Program} {w : World} {A : Around} {E : Value → Shared → Prop} {K : Frag} {C : Addr} {fs : List Str} {env : Env}
theorem ld_slot {M : Model} {s : Shared} {m : Str → Option Value} {x : Str} {pos : Pos} {v : Value} {Q : Value → Shared → Prop} (hk : env.scope.kind = .function) (hl : env.kindOf x = some .local) (hn : s.heap.Ns env.locals m) (hv : m x = some v) (hd : (x == ("__debug__" : Str)) = false) (h : Q v s) :
    wpAny M A (eval (.Name x pos) env) Q E s := wpAny_Name (wpAny_loadName_local hk hl hn hv h) hd
/-- the stores behind the first one -/
theorem run_more (T : ErrC K C fs) {x t1 dx : Addr} (hk : env.scope.kind = .function) (hself : env.kindOf "self" = some .local) (nx : x ≠ env.locals) (nd : dx ≠ env.locals) (ndx : dx ≠ x) {m : Str → Option Value} (hms : m "self" = some (.ref x)) :
    ∀ {body : List Stmt} {gs : List Str} (S : Stores body gs) {us : List Value} {s : Shared} {m0 : Str → Option Value} {nl : List Str} {Q : Flow → Shared → Prop},
      (∀ f ∈ gs, f ∈ fs ∧ env.kindOf f = some .local ∧ (f == ("__debug__" : Str)) = false) → (∀ (i : Nat) (f : Str) (u : Value), gs[i]? = some f → us[i]? = some u → m f = some u) → gs.length = us.length →
      K.In s.heap → (∀ h' : Heap, (∀ b o, b ≠ dx → s.heap.get? b = some o → h'.get? b = some o) → K.In h') → s.heap.Ns env.locals m → s.heap.get? x = some (xObj C t1 (some dx)) → s.heap.Ns1 dx m0 → Within m0 nl → nl.length + gs.length ≤ 1000 →
      (∀ h' tk, (∀ b o, b ≠ dx → s.heap.get? b = some o → h'.get? b = some o) → h'.Ns1 dx (putAll (gs.zip us) m0) → Q .next { s with heap := h', toks := tk }) →
      (∀ (f : Str) (p1 p2 p3 p4 : Pos), (.Assign [.Attribute (.Name "self" p1) f p2] (.Name f p3) p4) ∈ body → swapsWith (.Name f p3) (some (.Attribute (.Name "self" p1) f p2)) p4.line env = pure false) →
      wpAny (model prog w) A (execs body env) Q E s := by
  intro body gs S
  induction S with
  | nil =>
    intro us s m0 nl Q _ _ hl _ _ _ _ hns _ _ hq _
    cases us with
    | nil => exact wpAny_execs_nil (hq s.heap s.toks (fun _ _ _ e => e) hns)
    | cons _ _ => simp at hl
  | @cons f p1 p2 p3 p4 r gs S ih =>
    intro us s m0 nl Q hg hm hl X Xk hn hx hns hw hz hq hsw
    cases us with
    | nil => simp at hl
    | cons u us =>
      obtain ⟨hf, hfl, hfd⟩ := hg f (List.mem_cons_self ..)
      refine wpAny_execs_cons (plainObj_wpAny_Assign_Attribute ?_ (hsw f p1 p2 p3 p4 (List.mem_cons_self ..)))
      refine ld_slot hk hfl hn (hm 0 f u rfl rfl) hfd (ld_slot hk hself hn hms (by decide) ?_)
      refine st_more T X hf hx hns hw (by rw [List.length_cons] at hz; omega) fun h' tk k hns' => ?_
      have xd : x ≠ dx := ndx.symm
      show wpAny (model prog w) A (execs r env) Q E { s with heap := h', toks := tk }
      refine ih (us := us) (s := { s with heap := h', toks := tk }) (m0 := fun y => if y = f then some u else m0 y) (nl := f :: nl) (fun g hgm => hg g (List.mem_cons_of_mem _ hgm)) (fun i g v e1 e2 => hm (i + 1) g v e1 e2) (by simpa using hl)
        (Xk h' k) (fun h2 k2 => Xk h2 fun b o hb e => k2 b o hb (k b o hb e)) ?_ (k x _ xd hx) hns' (Within.cons f u hw) (by rw [List.length_cons] at hz ⊢; omega) (fun h2 tk2 k2 hns2 => ?_) (fun g q1 q2 q3 q4 hgm => hsw g q1 q2 q3 q4 (List.mem_cons_of_mem _ hgm))
      · obtain ⟨o, es, ep, ho, rest⟩ := hn
        exact ⟨o, es, ep, k _ _ nd.symm ho, rest⟩
      · exact hq h2 tk2 (fun b o hb e => k2 b o hb (k b o hb e)) hns2
end
/-- what the written part says of __init__, at fI: its function, its code object cda, its cell cc -/
structure IniF (K : Frag) (C fI : Addr) (fs : List Str) (qual : Str) (params : Arguments) (body : List Stmt) (scope : Scope) (file : Str) : Prop where
  at_ : findIn K (.ref C) "__init__" = some (some (.ref fI))
  ty : typeIn K (.ref fI) = some (.type "function")
  sup : ks_superIn K C C "__init__" = some (some (.builtin "Exception.__init__"))
  opq : nsIn K cStatics "thirdparty.any" = some none
  sub : mroIn K C (.ref C) = some true
  fn : ∃ (oc doc pm ct : Value) (od an : Option Addr) (osl : Array (Option Value)) (cda cc : Addr),
    K.lookup fI = some ⟨oc, od, .func (ksFn "__init__" qual params body scope .none .none doc pm an (.ref cda) ct cc), osl⟩ ∧ codeIn K (.ref cda) qual = true ∧
    (∃ (c1 : Value) (d1 : Option Addr) (vs : Array Value) (s1 : Array (Option Value)) (tf : Tok), K.lookup cda = some ⟨c1, d1, .fields vs, s1⟩ ∧ vs[2]? = some (.str file tf)) ∧
    ∃ (c2 : Value) (d2 : Option Addr) (s2 : Array (Option Value)), K.lookup cc = some ⟨c2, d2, .cell (some (.ref C)), s2⟩
/-- what the text of __init__ says -/
structure IniT (fs : List Str) (params : Arguments) (body : List Stmt) (scope : Scope) : Prop where
  kind : scope.kind = .function
  co : scope.isCoroutine = false
  gen : scope.isGenerator = false
  nocell : ∀ x ∈ scope.names, x.2 ≠ .cell
  self : scope.names.lookup ("self" : Str) = some .local
  names : ∀ f ∈ fs, scope.names.lookup f = some .local ∧ (f == ("__debug__" : Str)) = false
  nos : ∀ f ∈ fs, f ≠ "self"
  nd : fs.Nodup
  sup : scope.names.lookup ("super" : Str) = some .globalImplicit
  cls : scope.names.lookup ("__class__" : Str) = some .free
  head : ∃ ar, (params.posonlyargs ++ params.args).head? = some ar ∧ ar.arg = "self"
  body : ∃ (txt : Str) (j : Nat) (p0 p1 p2 p3 p4 p5 : Pos) (rest : List Stmt), body = .Expr (.Call (.Attribute (.Call (.Name "super" p0) [] [] p1) "__init__" p2) [.Constant (.str txt) j p3] [] p4) p5 :: rest ∧ Stores rest fs ∧
    (∀ env : Env, ∃ pl : Sem Bool, eval (.Call (.Attribute (.Call (.Name "super" p0) [] [] p1) "__init__" p2) [.Constant (.str txt) j p3] [] p4) env = (do
      let ov ← attributeBase (.Call (.Name "super" p0) [] [] p1) "__init__" env (eval (.Call (.Name "super" p0) [] [] p1) env)
      standAt p2.atName
      let (f, first) ← holding [ov] (getMethod ov "__init__" pl)
      callWith p4 f first (backTo p4 (starEach [.Constant (.str txt) j p3] env)) [])) ∧
    (∀ env : Env, swapsWith (.Call (.Attribute (.Call (.Name "super" p0) [] [] p1) "__init__" p2) [.Constant (.str txt) j p3] [] p4) none p5.line env = pure false) ∧
    ∀ (env : Env) (f : Str) (q1 q2 q3 q4 : Pos), (.Assign [.Attribute (.Name "self" q1) f q2] (.Name f q3) q4) ∈ rest → swapsWith (.Name f q3) (some (.Attribute (.Name "self" q1) f q2)) q4.line env = pure false
theorem cls_at {h : Heap} {K : Frag} {C : Addr} {cd : ClassData} (X : K.In h) (e : clsIn K C = some cd) : ∃ o, h.get? C = some o ∧ o.data = .cls cd := by
  unfold clsIn at e
  split at e
  · rename_i c d cd' sl ho
    cases e
    exact ⟨_, X _ _ ho, rfl⟩
  · cases e
section
variable {prog : Program} {w : World} {A : Around} {R : Result → Shared → Prop} {K : Frag} {C fI : Addr} {fs : List Str} {qual : Str} {params : Arguments} {body : List Stmt} {scope : Scope} {file : Str} {mg mb : Str → Option Value}
theorem err_init (T : ErrC K C fs) (F : IniF K C fI fs qual params body scope file) (N : IniT fs params body scope) (hne : fs ≠ []) {s : Shared} {x t0 : Addr} {us : List Value}
    (X : K.In s.heap) (Xk : ∀ h' : Heap, (∀ b o, b ≠ x → s.heap.get? b = some o → h'.get? b = some o) → K.In h') (hlim : s.heap.NoLimit) (hg : s.heap.Ns mainGlobals mg) (hbn : s.heap.Ns builtinsNs mb) (hms : mg "super" = none) (hmb : mb "super" = some (.type "super"))
    (hfile : ((prog.main.file : Str) == file) = true) (htop : (prog.main.scope.names.lookup ("super" : Str)).isSome = false)
    (hx : s.heap.get? x = some (xObj C t0 none)) (hroom : A.depth < recursionLimit) (hl : fs.length = us.length) (hz : fs.length ≤ 900)
    (hbind : ∀ fd : FuncData, fd.params = params → fd.scope = scope → fd.defaults = .none → fd.kwdefaults = .none → BindsTo s fd ⟨.ref x :: us, []⟩ (("self", .ref x) :: fs.zip us))
    (hq : ∀ h' tk dx t1, (∀ b o, b ≠ x → s.heap.get? b = some o → h'.get? b = some o) → s.heap.objs.size ≤ dx → dx ≠ x → h'.get? x = some (xObj C t1 (some dx)) →
      h'.Ns1 dx (putAll (fs.zip us) fun _ => none) → R (.ok (.ret .none)) { s with heap := h', toks := tk }) :
    codeAny (model prog w) A (.call (.ref fI) ⟨.ref x :: us, []⟩) R s := by
  obtain ⟨oc, doc, pm, ct, od, an, osl, cda, cc, hlk, hcd, ⟨c1, d1, vs, s1, tf, hcda, hvs⟩, c2, d2, s2, hcc⟩ := F.fn
  obtain ⟨cd, hclsC, hhd⟩ := any_some T.hd
  obtain ⟨ar, har, hars⟩ := N.head
  obtain ⟨txt, j, p0, p1, p2, p3, p4, p5, rest, rfl, hS, hcall, hsw, hsw2⟩ := N.body
  have hloc : ∀ y ∈ (("self", .ref x) :: fs.zip us : List (Str × Value)), scope.names.lookup y.1 = some .local := fun y hy => by
    rcases List.mem_cons.mp hy with e | hy
    · rw [e]; exact N.self
    · obtain ⟨a, b⟩ := y
      exact (N.names a (List.of_mem_zip hy).1).1
  refine ks_codeAny_call_defAt (fd := ksFn "__init__" qual params _ scope .none .none doc pm an (.ref cda) ct cc) (body := _) (binds := ("self", .ref x) :: fs.zip us) hroom (X _ _ hlk) rfl hlim (codeRec_of X hcd) rfl (hbind _ rfl rfl rfl rfl) N.nocell hloc (fun h0 hns k0 => ?_) N.co N.gen N.kind
  show _root_.PySem.wpAt (model prog w) (A.deeper (ksEnv qual scope s.heap.objs.size fI (.ref cda) cc)) (.func _ (ksEnv qual scope s.heap.objs.size fI (.ref cda) cc)) (execs _ (ksEnv qual scope s.heap.objs.size fI (.ref cda) cc)) _ _ _
  have X0 : K.In h0 := X.keeps k0
  have hx0 := k0 _ _ hx
  have hnL : x ≠ s.heap.objs.size := Nat.ne_of_lt (Heap.lt_size hx)
  have ns0 : ∀ {b : Addr} {m : Str → Option Value}, s.heap.Ns b m → h0.Ns b m := fun {b m} ⟨o, es, ep, e, r⟩ => ⟨o, es, ep, k0 _ _ e, r⟩
  have mself : (("self", .ref x) :: fs.zip us : List (Str × Value)).reverse.lookup ("self" : Str) = some (.ref x) := by
    rw [List.reverse_cons]
    have hno : ∀ l : List (Str × Value), (∀ p ∈ l, p.1 ≠ "self") → (l ++ [(("self" : Str), Value.ref x)]).lookup ("self" : Str) = some (.ref x) := by
      intro l
      induction l with
      | nil => intro _; simp [List.lookup]
      | cons p l ih =>
        intro h
        obtain ⟨a, b⟩ := p
        have na : a ≠ ("self" : Str) := h (a, b) (List.mem_cons_self ..)
        have e : (("self" : Str) == a) = false := by
          rw [beq_eq_false_iff_ne]
          exact na.symm
        rw [List.cons_append, List.lookup_cons, e]
        exact ih fun p hp => h p (List.mem_cons_of_mem _ hp)
    refine hno _ fun p hp => ?_
    obtain ⟨a, b⟩ := p
    exact N.nos a (List.of_mem_zip (List.mem_reverse.mp hp)).1
  obtain ⟨oD, hD1, hD2⟩ := cls_at X0 hclsC
  have Iobj : ∀ {h : Heap} {t1 : Addr}, h.get? x = some (xObj C t1 none) → InstAt h x (xObj C t1 none) C none := fun e => ⟨e, rfl, rfl, trivial⟩
  obtain ⟨nm, Nn, qn, bs, bm, hdct, sn, sub, ab, col, dd, k0', k1, k2, k3, k5, hC, hT⟩ := excInit_of X0 T.ini
  obtain ⟨pl, hev⟩ := hcall (ksEnv qual scope s.heap.objs.size fI (.ref cda) cc)
  refine ks_wpAt_execs_cons (ks_wpAt_Expr_any (ks_wpAt_MethodCall (pl := pl) (ks_wpAt_super_base (env := ksEnv qual scope s.heap.objs.size fI (.ref cda) cc) N.sup N.cls (by decide) rfl (X0 _ _ hlk) rfl har rfl (X0 _ _ hcda) rfl hvs hfile htop ?_) hev) (by simp [interactive, N.kind]) (hsw _))
  refine ks_loadName_global N.kind N.sup (loadGlobal_builtin (env := ksEnv qual scope s.heap.objs.size fI (.ref cda) cc) (ns0 hg) hms (ns0 hbn) hmb ⟨rfl, ?_⟩)
  refine wpAny_loadName_free N.kind N.cls rfl ⟨_, X0 _ _ hcc, rfl⟩ ?_
  refine wpAny_loadName_local N.kind (by rw [hars]; exact N.self) hns (by rw [hars]; exact mself) ?_
  refine ks_wpAny_isType_cls hD1 hD2 ⟨rfl, ?_⟩
  refine ks_wpAny_call_super hD1 hD2 hx0 rfl (fun c e => by cases e) (looks_mroIn X0 F.sub) (fun h1 e1 kk1 => ?_)
  have X1 : K.In h1 := X0.keeps kk1
  have hx1 := kk1 _ _ hx0
  have nex : x ≠ C := by
    intro z
    rw [z, hD1] at hx0
    cases hx0
    cases hD2
  have hin : Looks (model prog w) h1 (isInstance (.ref x) (.type "Exception")) true := (Iobj hx1).type.andThen (looks_subIn X1 T.exE)
  have hmro : Looks (model prog w) h1 (mroOf (.ref C)) cd.mro := (looks_clsIn X1 hclsC).andThen .now
  have hsup : alongIn K "__init__" ((cd.mro.dropWhile (· != .ref C)).drop 1) = some (some (.builtin "Exception.__init__")) := by
    have z := F.sup
    unfold ks_superIn at z
    rw [hclsC] at z
    exact z
  refine ESX.getMethod_super e1 (looks_opaque X1 F.opq) hmro rfl X1 hsup nex (by decide) hin ?_
  have kk2 : ∀ b o, h1.get? b = some o → (h1.push (ESX.bw x)).get? b = some o := fun b o e => Heap.get?_push_of_some _ e
  refine ESX.callWith_bound (x := x) ?_ rfl rfl
  refine spliced_cons (Constant_str (k := j) (pos := p3) (spliced_nil ⟨Heap.get?_push_at rfl rfl, ?_⟩))
  refine ESX.call_bw (kk2 _ _ (kk1 _ _ hC)) (kk2 _ _ hx1) (Heap.get?_push_at rfl rfl) (by rw [sizeLine_eq]; exact (by decide : 1 ≤ 16777216)) (fun h3 t3 kk3 hx3 => ?_)
  refine wpAt_of_wpAny ?_
  have old : ∀ b o, b ≠ x → h0.get? b = some o → h3.get? b = some o := fun b o hb e => kk3 b o hb (kk2 _ _ (kk1 _ _ e))
  have nsL : h3.Ns s.heap.objs.size fun y => (("self", .ref x) :: fs.zip us : List (Str × Value)).reverse.lookup y := by
    obtain ⟨o, es, ep, ho, r⟩ := hns
    exact ⟨o, es, ep, old _ _ hnL.symm ho, r⟩
  have X3 : K.In h3 := Xk h3 fun b o hb e => old b o hb (k0 _ _ e)
  have len0 : s.heap.objs.size < h3.objs.size := nsL.lt
  cases hS with
  | nil => exact absurd rfl hne
  | @cons f q1 q2 q3 q4 r gs S =>
    cases us with
    | nil => simp at hl
    | cons u us =>
      have mem := hsw2
      obtain ⟨nf, nfd⟩ := N.names f (List.mem_cons_self ..)
      have mget : ∀ (i : Nat) (g : Str) (v : Value), (f :: gs)[i]? = some g → (u :: us)[i]? = some v → (("self", .ref x) :: (f :: gs).zip (u :: us) : List (Str × Value)).reverse.lookup g = some v := fun i g v e1 e2 => by
        have key : ∀ (l : List Str) (ws : List Value), l.Nodup → l.length = ws.length → ∀ (i : Nat) (g : Str) (v : Value), l[i]? = some g → ws[i]? = some v → (l.zip ws).reverse.lookup g = some v := by
          intro l
          induction l with
          | nil => intro ws _ _ i g v e1; simp at e1
          | cons a l ih =>
            intro ws nd hl i g v e1 e2
            cases ws with
            | nil => simp at hl
            | cons b ws =>
              rw [List.zip_cons_cons, List.reverse_cons]
              have app : ∀ (m : List (Str × Value)) (o : Option Value), m.lookup g = o → (m ++ [(a, b)]).lookup g = o.or (if g = a then some b else none) := by
                intro m
                induction m with
                | nil =>
                  intro o e
                  subst e
                  by_cases q : g = a
                  · simp [List.lookup, q]
                  · have qb : (g == a) = false := by rw [beq_eq_false_iff_ne]; exact q
                    simp [List.lookup, qb, q]
                | cons p m ihm =>
                  intro o e
                  obtain ⟨c, d⟩ := p
                  rw [List.cons_append, List.lookup_cons]
                  rw [List.lookup_cons] at e
                  cases q : (g == c) with
                  | true => rw [q] at e; subst e; rfl
                  | false => rw [q] at e; exact ihm o e
              cases i with
              | zero =>
                have ea : a = g := Option.some.inj e1
                have eb : b = v := Option.some.inj e2
                subst ea eb
                have out : (l.zip ws).reverse.lookup a = none := by
                  cases z : (l.zip ws).reverse.lookup a with
                  | none => rfl
                  | some v =>
                    have y := PySem.mem_of_lookup z
                    exact absurd (List.of_mem_zip (List.mem_reverse.mp y)).1 (List.nodup_cons.mp nd).1
                rw [app _ _ out]
                simp
              | succ i => rw [app _ _ (ih ws (List.nodup_cons.mp nd).2 (by simpa using hl) i g v e1 e2)]; rfl
        rw [List.reverse_cons]
        have z := key (f :: gs) (u :: us) N.nd hl i g v e1 e2
        have app2 : ∀ (m : List (Str × Value)) (v : Value), m.lookup g = some v → (m ++ [(("self" : Str), Value.ref x)]).lookup g = some v := by
          intro m
          induction m with
          | nil => intro v e; cases e
          | cons p m ihm =>
            intro v e
            obtain ⟨c, d⟩ := p
            rw [List.cons_append, List.lookup_cons]
            rw [List.lookup_cons] at e
            cases q : (g == c) with
            | true => rw [q] at e; exact e
            | false => rw [q] at e; exact ihm v e
        exact app2 _ _ z
      refine wpAny_execs_cons (plainObj_wpAny_Assign_Attribute ?_ (hsw2 _ f q1 q2 q3 q4 (List.mem_cons_self ..)))
      refine ld_slot (env := ksEnv qual scope s.heap.objs.size fI (.ref cda) cc) N.kind nf nsL (mget 0 f u rfl rfl) nfd (ld_slot (env := ksEnv qual scope s.heap.objs.size fI (.ref cda) cc) N.kind N.self nsL mself (by decide) ?_)
      refine st_first T X3 (List.mem_cons_self ..) hx3 fun h4 tk4 dx k4 dn dne hx4 hns4 => ?_
      have nL4 : h4.Ns s.heap.objs.size fun y => (("self", .ref x) :: (f :: gs).zip (u :: us) : List (Str × Value)).reverse.lookup y := by
        obtain ⟨o, es, ep, ho, r⟩ := nsL
        exact ⟨o, es, ep, k4 _ _ hnL.symm ho, r⟩
      have ndL : dx ≠ s.heap.objs.size := fun z => by
        rw [z] at dn
        exact absurd (Nat.lt_of_lt_of_le len0 dn) (Nat.lt_irrefl _)
      have far : ∀ {b : Addr} {o : Obj}, s.heap.get? b = some o → b ≠ dx := fun {b o} e => Nat.ne_of_lt (Nat.lt_trans (Heap.lt_size e) (Nat.lt_of_lt_of_le len0 dn))
      have all4 : ∀ b o, b ≠ x → s.heap.get? b = some o → h4.get? b = some o := fun b o hb e => k4 b o hb (old b o hb (k0 _ _ e))
      refine run_more (env := ksEnv qual scope s.heap.objs.size fI (.ref cda) cc) T N.kind N.self hnL ndL dne mself S (us := us) (m0 := fun y => if y = f then some u else none) (nl := [f]) (fun g hg => ⟨List.mem_cons_of_mem _ hg, N.names g (List.mem_cons_of_mem _ hg)⟩) (fun i g v e1 e2 => mget (i + 1) g v e1 e2) (by simpa using hl)
        (Xk h4 all4) (fun h5 k5 => Xk h5 fun b o hb e => k5 b o (far e) (all4 b o hb e)) nL4 hx4 hns4 (Within.cons f u Within.nil) (by rw [List.length_cons] at hz; simp; omega) (fun h5 tk5 k5 hns5 => ?_) (fun g z1 z2 z3 z4 hg => hsw2 _ g z1 z2 z3 z4 (List.mem_cons_of_mem _ hg))
      exact hq h5 tk5 dx _ (fun b o hb e => k5 b o (far e) (all4 b o hb e)) (Nat.le_trans (Nat.le_of_lt len0) dn) dne (k5 _ _ dne.symm hx4) hns5
end
end Wh
namespace Wh
open PySem PySem.Spec PyProof.Rows L2
section
variable {X : Cx} {C fI : Addr} {fs : List Str} {qual : Str} {params : Arguments} {body : List Stmt} {scope : Scope} {file : Str}
/-- C(e, ..): an error with these fields -/
def tMkE (C : Addr) (fs : List Str) (ta : TA) : L2.St → Hp → XK → Prop := fun σ H Q => ta σ H fun vs H1 => vs.length = fs.length ∧ ∀ d, H1 d = none → Q (.ref C) (some d) (upd H1 d (.xd (flds fs vs [])))
theorem pmk_err {nm : Str} {e : Expr} {es : List Expr} {ta : TA} {p pos : Pos} {k : Nat} (T : ErrC X.K C fs) (F : IniF X.K C fI fs qual params body scope file) (N : IniT fs params body scope) (hne : fs ≠ []) (hz : fs.length ≤ 900)
    (hbind : ∀ (s : Shared) (x : Addr) (us : List Value) (fd : FuncData), us.length = fs.length → fd.params = params → fd.scope = scope → fd.defaults = .none → fd.kwdefaults = .none → BindsTo s fd ⟨.ref x :: us, []⟩ (("self", .ref x) :: fs.zip us))
    (hms : X.mg "super" = none) (hfile : ((X.prog.main.file : Str) == file) = true) (htop : (X.prog.main.scope.names.lookup ("super" : Str)).isSome = false)
    (hg : Gl X nm) (hm : X.mg nm = some (.ref C)) (hr : Room (k + 2) X.A) (ha : PA X (e :: es) ta) (hdb : (nm == ("__debug__" : Str)) = false := by decide)
    (he : starEach (e :: es) X.env = (false, eval e X.env) :: starEach es X.env := by rfl) (hpl : (backTo pos (starEach es X.env)).any (·.1) = false := by rfl) :
    PMk X (.Call (.Name nm p) (e :: es) [] pos) (tMkE C fs ta) := by
  intro pins s σ H Q I h
  refine wpAny_Call_Name_kw (ld_glob I hg hm ?_ hdb)
  refine PySem.W.callWith_K (h₀ := X.base) I.ok.mod.kin T.kp (thn (ha.run pos pins s σ H _ I h) fun us s1 hh => ?_) he hpl
  obtain ⟨vs, H1, I1, r1, hlen, q1⟩ := hh
  refine ⟨I1.kIn, ?_⟩
  show wpAny _ _ (call (.ref C) us) _ _ _
  have lenU : fs.length = us.length := hlen.symm.trans (Paired.length r1)
  have hzU : us.length ≤ sizeLine := by rw [← lenU, sizeLine_eq]; omega
  have KI := I1.kIn
  have hlim := I1.nolimit
  obtain ⟨mb, nsb, hbb⟩ := I1.mod.blt
  have nsg := I1.mod.glob
  have bk := I1.bk
  obtain ⟨hp, g, dr, tk, os⟩ := s1
  obtain ⟨nm', N', qn, bs, bm, hdct, sn, sub, ab, col, dd, k0, k1, k2, k3, k5, hC, hT⟩ := PySem.W.excInit_of KI T.ini
  have kk : ∀ b o, hp.get? b = some o → ((hp.push (PySem.W.kdv_tup us)).push (PySem.HandSPX.excO C hp.objs.size)).get? b = some o := fun b o z => Heap.get?_push_of_some _ (Heap.get?_push_of_some _ z)
  have hget : ((hp.push (PySem.W.kdv_tup us)).push (PySem.HandSPX.excO C hp.objs.size)).get? (hp.objs.size + 1) = some (PySem.HandSPX.excO C hp.objs.size) := by heap_get
  have nx : ∀ {b : Addr} {o : Obj}, hp.get? b = some o → b ≠ hp.objs.size + 1 := fun {b o} z => Nat.ne_of_lt (Nat.lt_succ_of_lt (Heap.lt_size z))
  refine wpAny_call (PySem.HandSPX.call_own PySem.F.excBase_Exception hT hC (PySem.W.looks_findIn KI F.at_) (fun self => PySem.W.bind_fn KI self F.ty) hzU ?_)
  have nsk : ∀ {b : Addr} {m : Str → Option Value}, X.base.Ns b m → ((hp.push (PySem.W.kdv_tup us)).push (PySem.HandSPX.excO C hp.objs.size)).Ns b m := fun {b m} ⟨o, es, ep, z, r⟩ => ⟨o, es, ep, kk _ _ (bk _ _ z), r⟩
  refine err_init (mg := X.mg) (mb := mb) (s := ⟨(hp.push (PySem.W.kdv_tup us)).push (PySem.HandSPX.excO C hp.objs.size), g, dr, tk, os⟩) T F N hne (KI.keeps kk) (fun h' z => KI.keeps fun b o y => z b o (nx y) (kk b o y)) (hlim.keeps kk) (nsk nsg) (nsk nsb) hms ((hbb _ (by decide)).trans (by decide +kernel)) hfile htop hget ?_ lenU hz
    (fun fd h1 h2 h3 h4 => hbind _ _ us fd lenU.symm h1 h2 h3 h4) (fun h' tk' dx t1 z1 z2 z3 z4 z5 => ?_)
  · have := hr.dp
    rw [make_depth]
    omega
  · refine ⟨rfl, ?_⟩
    have old : ∀ b o, hp.get? b = some o → h'.get? b = some o := fun b o y => z1 b o (nx y) (kk b o y)
    obtain ⟨G', g1, g2⟩ := restrict h' fun b => decide (b ≠ hp.objs.size + 1)
    have gk : ∀ b, b ≠ hp.objs.size + 1 → G'.get? b = h'.get? b := fun b hb => g1 b (decide_eq_true hb)
    have ge : G'.get? (hp.objs.size + 1) = none := g2 _ (by simp)
    have old2 : ∀ b o, hp.get? b = some o → G'.get? b = some o := fun b o y => (gk b (nx y)).trans (old b o y)
    have dbig : hp.objs.size ≤ dx := by
      have y := z2
      simp only [Heap.size_push] at y
      omega
    have ob : ObjOk X.prog X.w (upd H1 dx (.xd (flds fs vs []))) G' dx (.xd (flds fs vs [])) :=
      ⟨_, z5.at fun o y => (gk dx z3).trans y, fun f => relO_putAll (acc := []) (m := fun _ => none) r1 lenU (fun _ => (True.intro : RelO none none)) f⟩
    have J : Inv X pins σ (upd H1 dx (.xd (flds fs vs []))) ⟨G', g, dr, tk', os⟩ := I1.laid (t' := tk') old2 dbig ob
    refine ⟨hp.objs.size + 1, _, _, ⟨G', g, dr, tk', os⟩, _, .ref C, some dx, rfl, J, fun b o y => ?_, ge, z4, ⟨rfl, rfl⟩, rfl, rfl, ?_, rfl, I1.bare, raises_own T.ex T.ty, q1 dx (I1.hok.fresh dbig)⟩
    · by_cases hb : b = hp.objs.size + 1
      · have y' : G'.get? b = some o := y
        rw [hb, ge] at y'
        cases y'
      · exact (gk b hb).symm.trans y
    · rw [upd_ne (Ne.symm z3)]
      exact I1.hok.fresh (Nat.le_succ _)
end
end Wh
set_option Elab.async false
set_option linter.all false
set_option maxRecDepth 100000
set_option maxHeartbeats 2000000
/-! WHead: what the head tells: defs, facts, own errors, empty tables. -/
namespace Wh
open PySem PySem.Spec PyProof.Rows L2 He
structure ErrD where
  cls : Str
  fs : List Str
  qual : Str
  params : Arguments
  body : List Stmt
  scope : Scope
abbrev IniV : Type := Option (Str × Str × Arguments × FuncBody × Scope × Addr × List Str × Bool × Addr)
def isNon : Value → Bool
  | .none => true
  | _ => false
theorem isNon_ok {v : Value} (h : isNon v = true) : v = .none := by
  cases v <;> first | rfl | cases h
def iniV (K : PySem.W.Frag) (d : ErrD) : IniV := match K.lookup (ma K (ga K d.cls) "__init__") with
  | some ⟨_, _, .func fd, _⟩ => some (fd.name, fd.qualname, fd.params, fd.body, fd.scope, fd.globals, fd.closure.map (·.1), isNon fd.defaults && isNon fd.kwdefaults, fd.builtins)
  | _ => none
def ErrD.val (d : ErrD) : IniV := some ("__init__", d.qual, d.params, .stmts d.body, d.scope, mainGlobals, ["__class__"], true, builtinsNs)
def fileB (K : PySem.W.Frag) (c : Addr) (file : Str) : Bool := match K.lookup c with
  | some ⟨_, _, .fields vs, _⟩ => (match (vs[2]? : Option Value) with
    | some (.str f _) => decide (f = file)
    | _ => false)
  | _ => false
def cellB (K : PySem.W.Frag) (c C : Addr) : Bool := match K.lookup c with
  | some ⟨_, _, .cell (some (.ref D)), _⟩ => decide (D = C)
  | _ => false
def codeB (K : PySem.W.Frag) (file : Str) (C : Addr) (qual : Str) (fd : FuncData) : Bool := match fd.code with
  | .ref c => (match fd.closure with
    | [(_, cc)] => PySem.W.codeIn K (.ref c) qual && (fileB K c file && cellB K cc C)
    | _ => false)
  | _ => false
def iniB (K : PySem.W.Frag) (file : Str) (d : ErrD) : Bool := match K.lookup (ma K (ga K d.cls) "__init__") with
  | some ⟨_, _, .func fd, _⟩ => codeB K file (ga K d.cls) d.qual fd
  | _ => false
def errB (K : PySem.W.Frag) (d : ErrD) : Bool :=
  PySem.W.excInitIn K (ga K d.cls) exT "Exception.__new__" && (PySem.W.excOver K (ga K d.cls) exT && (eqO (PySem.W.findIn K (.ref (ga K d.cls)) "__setattr__") (some (some (.builtin "object.__setattr__"))) && (PySem.W.hasDictIn K (ga K d.cls) &&
    (d.fs.all (fun f => eqO (PySem.W.findIn K (.ref (ga K d.cls)) f) (some none)) && (decide (PySem.W.subIn K (.ref (ga K d.cls)) (.type "BaseException") = some true) && (decide (PySem.W.subIn K (.ref (ga K d.cls)) (.type "Exception") = some true) &&
      (decide (PySem.W.typeIn K (.ref (ga K d.cls)) = some (.type "type")) && PySem.W.keepIn K (.ref (ga K d.cls)))))))))
def suB (K : PySem.W.Frag) (d : ErrD) : Bool :=
  eqO (PySem.W.findIn K (.ref (ga K d.cls)) "__init__") (some (some (.ref (ma K (ga K d.cls) "__init__")))) && (decide (PySem.W.typeIn K (.ref (ma K (ga K d.cls) "__init__")) = some (.type "function")) &&
    (eqO (PySem.W.ks_superIn K (ga K d.cls) (ga K d.cls) "__init__") (some (some (.builtin "Exception.__init__"))) && (eqO (PySem.W.nsIn K cStatics "thirdparty.any") (some none) && decide (PySem.W.mroIn K (ga K d.cls) (.ref (ga K d.cls)) = some true))))
theorem errB_ok {K : PySem.W.Frag} {d : ErrD} (h : errB K d = true) : ErrC K (ga K d.cls) d.fs := by
  obtain ⟨h1, h⟩ := ba h
  obtain ⟨h2, h⟩ := ba h
  obtain ⟨h3, h⟩ := ba h
  obtain ⟨h4, h⟩ := ba h
  obtain ⟨h5, h⟩ := ba h
  obtain ⟨h6, h⟩ := ba h
  obtain ⟨h7, h⟩ := ba h
  obtain ⟨h8, h9⟩ := ba h
  exact ⟨h1, h2, eqO_ok h3, h4, fun f hf => eqO_ok (List.all_eq_true.mp h5 f hf), of_decide_eq_true h6, of_decide_eq_true h7, of_decide_eq_true h8, h9⟩
theorem iniF_ok {K : PySem.W.Frag} {d : ErrD} {file : Str} (h : suB K d = true) (e : iniV K d = d.val) (c : iniB K file d = true) : IniF K (ga K d.cls) (ma K (ga K d.cls) "__init__") d.fs d.qual d.params d.body d.scope file := by
  obtain ⟨h1, h⟩ := ba h
  obtain ⟨h2, h⟩ := ba h
  obtain ⟨h3, h⟩ := ba h
  obtain ⟨h4, h5⟩ := ba h
  refine ⟨eqO_ok h1, of_decide_eq_true h2, eqO_ok h3, eqO_ok h4, of_decide_eq_true h5, ?_⟩
  unfold iniV at e
  unfold iniB at c
  cases q : K.lookup (ma K (ga K d.cls) "__init__") with
  | none =>
    rw [q] at c
    cases c
  | some o =>
    obtain ⟨oc, od, dt, osl⟩ := o
    rw [q] at c e
    cases dt with
    | func fd =>
      obtain ⟨n1, n2, n3, n4, n5, n6, n7, n8, n9, n10, n11, n12, n13, n14, n15⟩ := fd
      have e2 : (some (n1, n2, n3, n4, n5, n6, n7.map (·.1), isNon n8 && isNon n9, n15) : IniV) = (some (("__init__" : Str), d.qual, d.params, FuncBody.stmts d.body, d.scope, mainGlobals, [("__class__" : Str)], true, builtinsNs) : IniV) := e
      simp only [Option.some.injEq, Prod.mk.injEq] at e2
      obtain ⟨z1, z2, z3, z4, z5, z6, z7, z8, z9⟩ := e2
      subst z1 z2 z3 z4 z5 z6 z9
      obtain ⟨y1, y2⟩ := ba z8
      obtain rfl := isNon_ok y1
      obtain rfl := isNon_ok y2
      have c2 : codeB K file (ga K d.cls) d.qual _ = true := c
      unfold codeB at c2
      cases n13 with
      | ref ca =>
        cases n7 with
        | nil =>
          have z := congrArg List.length z7
          simp at z
        | cons p r =>
          cases r with
          | cons p2 r2 =>
            have z := congrArg List.length z7
            simp at z
          | nil =>
            obtain ⟨nm, cc⟩ := p
            have en : nm = ("__class__" : Str) := by
              have z : [nm] = [("__class__" : Str)] := z7
              exact (List.cons.inj z).1
            subst en
            have c3 : (PySem.W.codeIn K (.ref ca) d.qual && (fileB K ca file && cellB K cc (ga K d.cls))) = true := c2
            obtain ⟨c4, c5⟩ := ba c3
            obtain ⟨c6, c7⟩ := ba c5
            refine ⟨oc, n10, n11, n14, od, n12, osl, ca, cc, rfl, c4, ?_, ?_⟩
            · unfold fileB at c6
              cases q2 : K.lookup ca with
              | none => rw [q2] at c6; cases c6
              | some o2 =>
                obtain ⟨a1, a2, a3, a4⟩ := o2
                rw [q2] at c6
                cases a3 with
                | fields vs =>
                  have c8 : (match (vs[2]? : Option Value) with | some (.str f _) => decide (f = file) | _ => false) = true := c6
                  cases q3 : (vs[2]? : Option Value) with
                  | none => rw [q3] at c8; cases c8
                  | some v =>
                    rw [q3] at c8
                    cases v with
                    | str f t =>
                      have ef : f = file := of_decide_eq_true c8
                      subst ef
                      exact ⟨a1, a2, vs, a4, t, rfl, q3⟩
                    | _ => cases c8
                | _ => cases c6
            · unfold cellB at c7
              cases q2 : K.lookup cc with
              | none => rw [q2] at c7; cases c7
              | some o2 =>
                obtain ⟨a1, a2, a3, a4⟩ := o2
                rw [q2] at c7
                cases a3 with
                | cell v =>
                  cases v with
                  | none => cases c7
                  | some v =>
                    cases v with
                    | ref D =>
                      have ed : D = ga K d.cls := of_decide_eq_true c7
                      subst ed
                      exact ⟨a1, a2, a4, rfl⟩
                    | _ => cases c7
                | _ => cases c7
      | _ => cases c2
    | _ => cases c
/-! ### the Hook -/
def asW (g : Addr → Option Obj) (n : Nat) : List Addr := cStatics :: asD g n
structure SaysW (fa : List Fa) (fn : List DefD) (es : List ErrD) (tf : List Defn) (ex : PySem.W.Frag → Bool) (file : Str) (h : Heap) (K : PySem.W.Frag) : Prop where
  d : SaysD fa fn K
  more : ex K = true
  err : ∀ e ∈ es, ErrC K (ga K e.cls) e.fs ∧ IniF K (ga K e.cls) (ma K (ga K e.cls) "__init__") e.fs e.qual e.params e.body e.scope file
  hd : ∀ p ∈ tf, PySem.W.codeHdIn K (cT K p).1 (cT K p).2 = true
  out : ∀ p ∈ tf, K.lookup (cT K p).2 = none
  empty : ∀ p ∈ tf, h.get? (cT K p).2 = some { cls := .none, data := .fields #[] }
abbrev AlW : Type := (AlD × List IniV) × Bool
def obsK (fa : List Fa) (fn : List DefD) (es : List ErrD) (tf : List Defn) (ex : PySem.W.Frag → Bool) (file : Str) (g : Addr → Option Obj) (K : PySem.W.Frag) : AlW :=
  ((obsD fa fn K, es.map (iniV K)), (ex K && es.all (fun e => errB K e && (suB K e && iniB K file e))) && tabsB g tf K)
def obsW (n : Nat) (fa : List Fa) (fn : List DefD) (es : List ErrD) (tf : List Defn) (ex : PySem.W.Frag → Bool) (file : Str) (g : Addr → Option Obj) : AlW := obsK fa fn es tf ex file g (frT g (asW g n))
def valW (fn : List DefD) (es : List ErrD) : AlW := ((valD fn, es.map ErrD.val), true)
theorem saysW_of {n : Nat} {fa : List Fa} {fn : List DefD} {es : List ErrD} {tf : List Defn} {ex : PySem.W.Frag → Bool} {file : Str} {h : Heap} (e : obsW n fa fn es tf ex file h.get? = valW fn es) : SaysW fa fn es tf ex file h (frT h.get? (asW h.get? n)) := by
  unfold obsW at e
  generalize hK : frT h.get? (asW h.get? n) = K at e ⊢
  have e1 : obsD fa fn K = valD fn := congrArg (fun z : AlW => z.1.1) e
  have e2 : es.map (iniV K) = es.map ErrD.val := congrArg (fun z : AlW => z.1.2) e
  have e3 : ((ex K && es.all (fun e => errB K e && (suB K e && iniB K file e))) && tabsB h.get? tf K) = true := congrArg (fun z : AlW => z.2) e
  obtain ⟨f1, f2⟩ := ba e3
  obtain ⟨f3, f4⟩ := ba f1
  have key : ∀ p ∈ tf, PySem.W.codeHdIn K (cT K p).1 (cT K p).2 = true ∧ ∃ o, h.get? (cT K p).2 = some o ∧ emptyTab o = true := fun p hp => by
    have z := List.all_eq_true.mp f2 p hp
    obtain ⟨a, b⟩ := ba z
    refine ⟨a, ?_⟩
    cases q : h.get? (cT K p).2 with
    | none => rw [q] at b; cases b
    | some o => rw [q] at b; exact ⟨o, rfl, b⟩
  refine ⟨e1, f3, fun d hd => ?_, fun p hp => (key p hp).1, fun p hp => ?_, fun p hp => ?_⟩
  · obtain ⟨a, b⟩ := ba (List.all_eq_true.mp f4 d hd)
    obtain ⟨b1, b2⟩ := ba b
    exact ⟨errB_ok a, iniF_ok b1 (List.map_inj_left.mp e2 d hd) b2⟩
  · obtain ⟨_, o, q, z⟩ := key p hp
    rw [← hK]
    rw [← hK] at q
    exact frT_none q z
  · obtain ⟨_, o, q, z⟩ := key p hp
    rw [q, emptyTab_eq z]
def hookW (n : Nat) (fa : List Fa) (fn : List DefD) (es : List ErrD) (tf : List Defn) (ex : PySem.W.Frag → Bool) (file : Str) : PySem.W.Hook where
  α := AlW
  obs := fun s => obsW n fa fn es tf ex file s.heap.get?
  val := fun _ => valW fn es
  says := fun _ h => ∃ K : PySem.W.Frag, K.In h ∧ SaysW fa fn es tf ex file h K
  of := fun _ _ e => ⟨_, frT_in, saysW_of e⟩
  keeps := fun _ _ _ ⟨K, hK, c⟩ k => ⟨K, PySem.W.Frag.In.keeps hK k, ⟨c.d, c.more, c.err, c.hd, c.out, fun p hp => k _ _ (c.empty p hp)⟩⟩
theorem obsW_eq {n : Nat} {fa : List Fa} {fn : List DefD} {es : List ErrD} {tf : List Defn} {ex : PySem.W.Frag → Bool} {file : Str} {g : Addr → Option Obj} {s : Shared} (h : ∀ a, g a = s.heap.get? a) : obsW n fa fn es tf ex file g = (hookW n fa fn es tf ex file).obs s := by
  have e : g = s.heap.get? := funext h
  rw [e] <;> rfl
end Wh
set_option Elab.async false
set_option linter.all false
set_option maxRecDepth 100000
set_option maxHeartbeats 2000000
/-! WEnum: enumerate(text). -/
namespace Wh
open PySem PySem.Spec PyProof.Rows L2
/-- each sign of the text with its number, in a new pair -/
def Ites (z : Str) : It :=
  ⟨fun i _ => i < z.cps.size, fun i H v H' => ∃ T c, v = .ref T ∧ H T = none ∧ H' = upd H T (.tup [.int (i : Nat), .str ⟨#[c]⟩]) ∧ z.cps[i]? = some c, fun i _ => z.cps.size ≤ i⟩
theorem turn_enumS {P : Program} {w : World} {K : PySem.W.Frag} {elts : List Expr} {kk : Nat} {tpos : Pos} (z : Str) (t : Tok) (e it : Addr) :
    Turn P w K (.Tuple elts kk tpos) (Ites z) [e, it] e (fun i h => (∃ old, IsEnum h e it ((i : Nat) : Int) old) ∧ h.IsStrIter it (strIterType z) z t i ∧ e ≠ it ∧ i ≤ z.cps.size) where
  mem := by simp
  obj := fun i h st b hb => by
    obtain ⟨⟨old, he⟩, ⟨o, ho, hc, hd⟩, _⟩ := st
    have e' : b = e ∨ b = it := by simpa using hb
    rcases e' with z | z
    · rw [z]; exact ⟨_, he, fun v q => nomatch q⟩
    · rw [z]; exact ⟨o, ho, fun v q => by rw [hd] at q; cases q⟩
  keep := fun i h h' st k => by
    obtain ⟨⟨old, he⟩, ⟨o, ho, r⟩, hne, hle⟩ := st
    exact ⟨⟨old, k e (by simp) _ he⟩, ⟨o, k it (by simp) o ho, r⟩, hne, hle⟩
  item := by
    intro X hP hw hK hc i pins s σ H E I hf st hg
    subst hP hw hK
    obtain ⟨⟨old, he⟩, hit, hne, _⟩ := st
    have hel : e < s.heap.objs.size := Heap.lt_size he
    have hil : it < s.heap.objs.size := by obtain ⟨_, q, _⟩ := hit; exact Heap.lt_size q
    have D : Draws X.prog X.w X.A.in1 it [it] z.cps.size (fun i v => ∃ c u, z.cps[i]? = some c ∧ v = .str ⟨#[c]⟩ u) (fun i h => h.IsStrIter it (strIterType z) z t i) := Draws.text (A := X.A.in1) (show X.A.in1.handled = none from I.ok.hd hc) it z t
    refine wpAny_pyNext_enum_itemD D he hit hg hne (by simpa using hne) fun x h' tk hx ho hit' hT hsz hk => ?_
    obtain ⟨c, u, hcx, rfl⟩ := hx
    refine ⟨_, rfl, wpAny_letOwnedTupleGo_enum (s := { s with heap := h', toks := tk + 1 }) ho fun h'' he' sb => ?_⟩
    have hT2 : h''.get? s.heap.objs.size = some { cls := .type "tuple", data := .seq #[.int i tk, .str ⟨#[c]⟩ u] } := (sb.2 _ (Nat.ne_of_gt hel)).trans hT
    have new : ObjOk X.prog X.w (upd H s.heap.objs.size (.tup [.int (i : Nat), .str ⟨#[c]⟩])) h'' s.heap.objs.size (.tup [.int (i : Nat), .str ⟨#[c]⟩]) :=
      ⟨by show 2 ≤ sizeLine; decide, [.int i tk, .str ⟨#[c]⟩ u], .cons ⟨_, rfl⟩ (.cons ⟨_, rfl⟩ .nil), ⟨_, hT2, rfl, _, rfl⟩⟩
    have I1 : Inv X pins σ (upd H s.heap.objs.size (.tup [.int (i : Nat), .str ⟨#[c]⟩])) { s with heap := h'', toks := tk + 1 } :=
      I.turnedNew (ch := [e, it]) (fun b ob hb q => (sb.2 b (fun z => hb (by simp [z]))).trans (hk b ob (fun z => hb (by simp [z])) (fun z => hb (by simp [z])) q)) hf (Nat.le_refl _) new
    refine ⟨.ref s.heap.objs.size, _, I1, rfl, ⟨_, c, rfl, I.hok.fresh (Nat.le_refl _), rfl, hcx⟩, ⟨⟨.str ⟨#[c]⟩ u, ?_⟩, ?_, hne, hg⟩, fun b hb => ?_⟩
    · have e1 : ((i + 1 : Nat) : Int) = (i : Int) + 1 := by omega
      rw [e1]; exact he'
    · obtain ⟨o, h1, h2⟩ := hit'
      exact ⟨o, (sb.2 it (Ne.symm hne)).trans h1, h2⟩
    · have hb' : b < s.heap.objs.size := by
        have e' : b = e ∨ b = it := by simpa using hb
        rcases e' with z | z
        · rw [z]; exact hel
        · rw [z]; exact hil
      rw [upd_ne (Nat.ne_of_lt hb')]
      exact (hf b hb).1
  done := by
    intro X hP hw hK hc i pins s σ H E I hf st hg
    subst hP hw hK
    obtain ⟨⟨old, he⟩, hit, hne, hle⟩ := st
    have e : i = z.cps.size := Nat.le_antisymm hle hg
    subst e
    obtain ⟨f0, f1, f2, f3, f4, f5⟩ := hf it (by simp)
    have D : Draws X.prog X.w X.A.in1 it [it] z.cps.size (fun i v => ∃ c u, z.cps[i]? = some c ∧ v = .str ⟨#[c]⟩ u) (fun i h => h.IsStrIter it (strIterType z) z t i) := Draws.text (A := X.A.in1) (show X.A.in1.handled = none from I.ok.hd hc) it z t
    exact wpAny_pyNext_enum_endD D he hit fun h' eb => ⟨rfl, I.turned (t' := s.toks) (fun b o hb q => eb b o hb q) f0 f1 f3 f4 f5⟩
  self := fun A i s Q E st h => let ⟨⟨_, he⟩, _⟩ := st; wpAny_pyIter_enum he h
def iEnumS (ta : TA) : TI := fun σ H R => ta σ H fun vs H1 => ∃ z, vs = [.str z] ∧ R (Ites z) H1
theorem pi_enumS {X : Cx} {e : Expr} {ta : TA} {p pos tpos : Pos} {elts : List Expr} {kk : Nat} (hg : Gl X "enumerate") (hm : X.mg "enumerate" = none) (ha : PA X [e] ta) (hs : starEach [e] X.env = [(false, eval e X.env)] := by rfl) :
    PI X (.Tuple elts kk tpos) (.Call (.Name "enumerate" p) [e] [] pos) (iEnumS ta) := by
  refine ⟨fun pins s σ H R I h => ?_⟩
  refine Call_ (ld_blt I hg hm boot_enumerate (PyProof.Rows.callWith_type1 (thn (ha.run pos pins s σ H _ I h) fun us s1 ⟨vs, H1, I1, r1, q1⟩ => ?_) hs rfl))
  obtain ⟨z, ex, q⟩ := q1
  subst ex
  cases r1 with
  | cons r rr =>
    cases rr
    obtain ⟨t, rfl⟩ := r
    refine call_enumerate_str fun h' he hit hsz hk => wpAny_pyIter_enum he ?_
    have I2 : Inv X pins σ H1 { s1 with heap := h' } := I1.kept (t' := s1.toks) hk
    refine ⟨s1.heap.objs.size + 1, [s1.heap.objs.size + 1, s1.heap.objs.size], _, _, H1, rfl, I2, turn_enumS z t (s1.heap.objs.size + 1) s1.heap.objs.size, ⟨⟨.none, he⟩, hit, Nat.succ_ne_self _, Nat.zero_le _⟩, fun b hb => ?_, q⟩
    have e' : b = s1.heap.objs.size + 1 ∨ b = s1.heap.objs.size := by simpa using hb
    have hle : s1.heap.objs.size ≤ b := by
      rcases e' with z | z
      · rw [z]; exact Nat.le_add_right _ _
      · rw [z]; exact Nat.le_refl _
    exact I1.fpOk hle (I1.hok.fresh hle)
theorem walk_enumS {z : Str} : Walk (Ites z) z.cps.size (fun _ => True) (YPair (fun i => some (.int (i : Nat))) (fun i => z.cps[i]?.map fun c => .str ⟨#[c]⟩)) := by
  refine ⟨fun i _ hi _ => hi, fun _ _ => Nat.le_refl _, fun i H v H' _ _ y => ?_⟩
  obtain ⟨T, c, h1, h2, h3, h4⟩ := y
  exact ⟨T, .int (i : Nat), .str ⟨#[c]⟩, h1, h2, h3, rfl, by show Option.map _ z.cps[i]? = _; rw [h4]; rfl⟩
end Wh
set_option Elab.async false
set_option linter.all false
set_option maxRecDepth 100000
set_option maxHeartbeats 2000000
/-! WRead: readings that compute: a value's form decides what is asked, so that a body is gone through by reduction alone. -/
namespace Wh
open PySem PySem.Spec PyProof.Rows L2
/-! ### what stays -/
/-- all but the objects at B stays; tuples and locked ones stay anyway -/
structure Xt (B : List Addr) (H H' : Hp) : Prop where
  keep : ∀ a o, a ∉ B → H a = some o → H' a = some o
  tups : ∀ a xs, H a = some (.tup xs) → H' a = some (.tup xs)
  frzs : ∀ a o u, H a = some (.frz o u) → H' a = some (.frz o u)
section
variable {K : PySem.W.Frag} {B B' : List Addr} {H H1 H2 H' : Hp} {a b l : Addr} {o : HO} {xs : List V}
theorem Xt.refl (B : List Addr) (H : Hp) : Xt B H H := ⟨fun _ _ _ e => e, fun _ _ e => e, fun _ _ _ e => e⟩
theorem Xt.trans (x : Xt B H H1) (y : Xt B H1 H2) : Xt B H H2 := ⟨fun a o n e => y.keep a o n (x.keep a o n e), fun a xs e => y.tups a xs (x.tups a xs e), fun a o u e => y.frzs a o u (x.frzs a o u e)⟩
theorem Xt.mono (x : Xt B H H1) (h : ∀ a, a ∈ B → a ∈ B') : Xt B' H H1 := ⟨fun a o n e => x.keep a o (fun z => n (h a z)) e, x.tups, x.frzs⟩
theorem Xt.any (x : Xt [] H H1) : Xt B H H1 := x.mono fun _ z => absurd z (List.not_mem_nil)
theorem Xt.get (x : Xt [] H H1) {a : Addr} {o : HO} (e : H a = some o) : H1 a = some o := x.keep a o List.not_mem_nil e
/-- a new object -/
theorem Xt.new (n : H a = none) : Xt B H (upd H a o) := ⟨fun b u _ e => by rw [upd_ne (ne_of_none e n)]; exact e, fun b xs e => by rw [upd_ne (ne_of_none e n)]; exact e, fun b u v e => by rw [upd_ne (ne_of_none e n)]; exact e⟩
/-- an object of B is changed -/
theorem Xt.put (h : a ∈ B) (e : H a = some o) (h1 : ∀ xs, o ≠ .tup xs) (h2 : ∀ u v, o ≠ .frz u v) {o' : HO} : Xt B H (upd H a o') :=
  ⟨fun b u nb eb => by rw [upd_ne (fun z => nb (by rw [z]; exact h))]; exact eb, fun b xs eb => by rw [upd_ne (fun z => h1 xs (Option.some.inj (e.symm.trans (by rw [← z]; exact eb))))]; exact eb,
    fun b u v eb => by rw [upd_ne (fun z => h2 u v (Option.some.inj (e.symm.trans (by rw [← z]; exact eb))))]; exact eb⟩
/-- an object that H does not know is changed -/
theorem Xt.mut (x : Xt B H H1) (n : H l = none) {o' : HO} : Xt B H (upd H1 l o') :=
  ⟨fun b u nb eb => by rw [upd_ne (ne_of_none eb n)]; exact x.keep b u nb eb, fun b xs eb => by rw [upd_ne (ne_of_none eb n)]; exact x.tups b xs eb, fun b u v eb => by rw [upd_ne (ne_of_none eb n)]; exact x.frzs b u v eb⟩
theorem Xt.free (x : Xt B H H1) (nb : l ∉ B) (n : H1 l = none) : H l = none := by
  cases q : H l with
  | none => rfl
  | some o =>
    rw [x.keep l o nb q] at n
    cases n
theorem Xt.free0 (x : Xt [] H H1) (n : H1 l = none) : H l = none := x.free List.not_mem_nil n
theorem Xt.tup (x : Xt B H H1) (h : SqT K H a xs) : SqT K H1 a xs := by
  rcases h with (h | ⟨o, h⟩) | h
  · exact .inl (.inl (x.tups _ _ h))
  · exact .inl (.inr ⟨o, x.frzs _ _ _ h⟩)
  · exact .inr h
theorem Xt.lst (x : Xt B H H1) (n : a ∉ B) (h : SqL K H a xs) : SqL K H1 a xs := by
  rcases h with (h | ⟨o, h⟩) | h
  · exact .inl (.inl (x.keep _ _ n h))
  · exact .inl (.inr ⟨o, x.frzs _ _ _ h⟩)
  · exact .inr h
theorem Xt.lst0 (x : Xt [] H H1) (h : SqL K H a xs) : SqL K H1 a xs := x.lst List.not_mem_nil h
end
/-! ### rules get weaker readings -/
section
variable {X : Cx} {e : Expr}
theorem PE.to {t t' : TE} (h : PE X e t) (i : ∀ σ H Q, t' σ H Q → t σ H Q) : PE X e t' := ⟨fun pins s σ H Q I w => h.run pins s σ H Q I (i σ H Q w)⟩
theorem PT.to {t t' : TT} (h : PT X e t) (i : ∀ σ H Q, t' σ H Q → t σ H Q) : PT X e t' := ⟨fun pins s σ H Q I w => h.run pins s σ H Q I (i σ H Q w)⟩
theorem PW.to {t t' : TT} (h : PW X e t) (i : ∀ σ H Q, t' σ H Q → t σ H Q) : PW X e t' := ⟨fun whole pins s σ H Q I w => h.run whole pins s σ H Q I (i σ H Q w)⟩
theorem PS.to {st : Stmt} {t t' : TS} (h : PS X st t) (i : ∀ D σ H, t' D σ H → t D σ H) : PS X st t' := ⟨fun pins s σ H D I w => h.run pins s σ H D I (i D σ H w)⟩
end
/-- what is wanted may be less -/
def tMo (t : TE) : TE := fun σ H Q => ∃ Q0 : VK, t σ H Q0 ∧ ∀ v H', Q0 v H' → Q v H'
theorem PE.mo {X : Cx} {e : Expr} {t : TE} (h : PE X e t) : PE X e (tMo t) := ⟨fun pins s σ H Q I w => by
  obtain ⟨Q0, w, k⟩ := w
  exact thn (h.run pins s σ H Q0 I w) fun u s' ⟨v, H', I', r, q⟩ => ⟨v, H', I', r, k v H' q⟩⟩
def tMoT (t : TT) : TT := fun σ H Q => ∃ Q0 : Bool → Hp → Prop, t σ H Q0 ∧ ∀ b H', Q0 b H' → Q b H'
theorem PT.mo {X : Cx} {e : Expr} {t : TT} (h : PT X e t) : PT X e (tMoT t) := ⟨fun pins s σ H Q I w => by
  obtain ⟨Q0, w, k⟩ := w
  exact thn (h.run pins s σ H Q0 I w) fun u s' ⟨H', I', q⟩ => ⟨H', I', k u H' q⟩⟩
def tMoA (t : TA) : TA := fun σ H Q => ∃ Q0 : List V → Hp → Prop, t σ H Q0 ∧ ∀ vs H', Q0 vs H' → Q vs H'
theorem PA.mo {X : Cx} {es : List Expr} {t : TA} (h : PA X es t) : PA X es (tMoA t) := ⟨fun pos pins s σ H Q I w => by
  obtain ⟨Q0, w, k⟩ := w
  exact thn (h.run pos pins s σ H Q0 I w) fun u s' ⟨vs, H', I', r, q⟩ => ⟨vs, H', I', r, k vs H' q⟩⟩
/-! ### names -/
def xVar (i : Nat) : TE := fun σ H Q => match σ[i]? with
  | some (some v) => Q v H
  | _ => False
theorem xv {X : Cx} (i : Nat) {x : Str} {pos : Pos} (hN : X.N[i]? = some x := by rfl) (hv : Vis X.env.scope x := by first | exact Or.inl rfl | exact Or.inr (Or.inl rfl) | exact Or.inr (Or.inr rfl)) (hd : (x == ("__debug__" : Str)) = false := by decide)
    (hcd : (x == ("__classdict__" : Str)) = false := by decide) : PE X (.Name x pos) (xVar i) := by
  refine PE.to (pe_var hN hv hd hcd) fun σ H Q w => ?_
  unfold xVar at w
  cases q : σ[i]? with
  | none => rw [q] at w; exact w.elim
  | some o =>
    cases o with
    | none => rw [q] at w; exact w.elim
    | some v => rw [q] at w; exact ⟨v, q, w⟩
/-! ### operators -/
def aAdd (K : PySem.W.Frag) : R2 := fun x y H Q => match x, y with
  | .int i, .int j => Q (.int (i + j)) H
  | .int i, .bl k => Q (.int (i + b2i k)) H
  | .str i, .str j => i.length + j.length ≤ sizeLine ∧ Q (.str (i ++ j)) H
  | .ref a, .ref b => (∃ xs ys, H a = some (.lst xs) ∧ H b = some (.lst ys) ∧ xs.length + ys.length ≤ sizeLine ∧ ∀ p, H p = none → Q (.ref p) (upd H p (.lst (xs ++ ys)))) ∨
      rCatT K (.ref a) (.ref b) H Q
  | _, _ => False
def aSub : R2 := fun x y H Q => match x, y with
  | .int i, .int j => Q (.int (i - j)) H
  | _, _ => False
def aMul : R2 := fun x y H Q => match x, y with
  | .int i, .int j => CMul i j ∧ Q (.int (i * j)) H
  | .str z, .int n => (z.length ≤ 1000 ∧ 0 ≤ n ∧ n ≤ 10000) ∧ Q (.str ⟨(List.replicate n.toNat z.cps.toList).flatten.toArray⟩) H
  | _, _ => False
def aFdv : R2 := fun x y H Q => match x, y with
  | .int i, .int j => (j ≠ 0 ∧ j.natAbs < 1073741824) ∧ Q (.int (i.fdiv j)) H
  | _, _ => False
def aMod : R2 := fun x y H Q => match x, y with
  | .int i, .int j => j ≠ 0 ∧ Q (.int (i.fmod j)) H
  | _, _ => False
def aPow : R2 := fun x y H Q => match x, y with
  | .int i, .int j => CPow i j ∧ Q (.int (i ^ j.toNat)) H
  | _, _ => False
def aNeg : V → Hp → VK → Prop := fun x H Q => match x with
  | .int i => Q (.int (-i)) H
  | _ => False
/-- comparisons of whole numbers -/
def aCmp (g : Int → Int → Bool) : R2 := fun x y H Q => match x, y with
  | .int i, .int j => Q (.bl (g i j)) H
  | _, _ => False
def aEq (K : PySem.W.Frag) : R2 := fun x y H Q => match x, y with
  | .int i, .int j => Q (.bl (i == j)) H
  | .str i, .str j => Q (.bl (i == j)) H
  | .bl i, .bl j => Q (.bl (i == j)) H
  | .non, .non => Q (.bl true) H
  | .non, .int _ => Q (.bl false) H
  | .non, .str _ => Q (.bl false) H
  | .non, .bl _ => Q (.bl false) H
  | .int _, .non => Q (.bl false) H
  | .str _, .non => Q (.bl false) H
  | .bl _, .non => Q (.bl false) H
  | .int _, .str _ => Q (.bl false) H
  | .str _, .int _ => Q (.bl false) H
  | .bl _, .str _ => Q (.bl false) H
  | .str _, .bl _ => Q (.bl false) H
  | x, y => ∃ d e, Dp K H x d ∧ Dp K H y e ∧ SeqAt.shaped d = true ∧ SeqAt.shaped e = true ∧ Q (.bl (PyData.eqv d e)) H
/-- the contrary answer -/
def aNot (r : R2) : R2 := fun x y H Q => r x y H fun v H' => match v with
  | .bl b => Q (.bl (!b)) H'
  | _ => False
/-- x in y: one sign in a text; a flat thing in a list or tuple of such -/
def aIn (K : PySem.W.Frag) : R2 := fun x y H Q => match y with
  | .str z => ∃ c, x = .str ⟨#[c]⟩ ∧ Q (.bl (decide (c ∈ z.cps.toList))) H
  | .ref p => ∃ xs, (SqL K H p xs ∨ SqT K H p xs) ∧ flatV x = true ∧ xs.all flatV = true ∧ Q (.bl (inV x xs)) H
  | _ => False
/-- x is y: y None, a bool -/
def aIs : R2 := fun x y H Q => match y with
  | .non => Q (.bl (decide (x = .non))) H
  | .bl b => Q (.bl (decide (x = .bl b))) H
  | _ => False
section
variable {X : Cx}
theorem OpR.to {f : Value → Value → Sem Value} {r r' : R2} (h : OpR X f r) (i : ∀ x y H Q, r' x y H Q → r x y H Q) : OpR X f r' := fun pins s σ H x y u v Q I rx ry w => h pins s σ H x y u v Q I rx ry (i x y H Q w)
def rMo (r : R2) : R2 := fun x y H Q => ∃ Q0 : VK, r x y H Q0 ∧ ∀ v H', Q0 v H' → Q v H'
theorem OpR.mo {f : Value → Value → Sem Value} {r : R2} (h : OpR X f r) : OpR X f (rMo r) := fun pins s σ H x y u v Q I rx ry w => by
  obtain ⟨Q0, w, k⟩ := w
  exact thn (h pins s σ H x y u v Q0 I rx ry w) fun u s' ⟨v, H', I', r, q⟩ => ⟨v, H', I', r, k v H' q⟩
theorem xo_add : OpR X (binaryOp .Add) (aAdd X.K) := by
  intro pins s σ H x y u v Q I rx ry w
  unfold aAdd at w
  split at w
  · exact op_add pins s σ H _ _ u v Q I rx ry ⟨_, _, rfl, rfl, w⟩
  · exact op_add_ib pins s σ H _ _ u v Q I rx ry ⟨_, _, rfl, rfl, w⟩
  · exact op_add_str pins s σ H _ _ u v Q I rx ry ⟨_, _, rfl, rfl, w.1, w.2⟩
  · rcases w with ⟨xs, ys, h1, h2, h3, q⟩ | w
    · exact op_cat pins s σ H _ _ u v Q I rx ry ⟨_, _, xs, ys, rfl, rfl, h1, h2, h3, q⟩
    · exact op_catT pins s σ H _ _ u v Q I rx ry w
  · exact w.elim
theorem xo_sub : OpR X (binaryOp .Sub) aSub := by
  refine OpR.to op_sub fun x y H Q w => ?_
  unfold aSub at w
  split at w
  · exact ⟨_, _, rfl, rfl, w⟩
  · exact w.elim
theorem mul_codes (z : Str) (n : Int) (h : 0 ≤ n) : Txt.mul z n = ⟨(List.replicate n.toNat z.cps.toList).flatten.toArray⟩ := by
  obtain ⟨⟨l⟩⟩ := z
  have key : ∀ (k : Nat) (acc : Array Nat), ((List.replicate k l.toArray).foldl (· ++ ·) acc).toList = acc.toList ++ (List.replicate k l).flatten := by
    intro k
    induction k with
    | zero => intro acc; simp
    | succ k ih =>
      intro acc
      rw [List.replicate_succ, List.foldl_cons, ih, List.replicate_succ, List.flatten_cons]
      simp
  unfold Txt.mul
  by_cases h1 : n < 1
  · rw [if_pos h1]
    have e : n.toNat = 0 := by omega
    rw [e]
    rfl
  · rw [if_neg h1]
    by_cases h2 : n = 1
    · subst h2
      rw [if_pos (by simp)]
      simp
    · by_cases h3 : l.length = 0
      · have el : l = [] := List.length_eq_zero_iff.mp h3
        subst el
        rw [if_pos (by simp [Str.length])]
        simp
      · have e : (n == 1 || (⟨l.toArray⟩ : Str).length == 0) = false := by
          have a1 : (n == 1) = false := by simpa using h2
          have a2 : ((⟨l.toArray⟩ : Str).length == 0) = false := by simpa [Str.length] using h3
          rw [a1, a2] <;> rfl
        rw [e, if_neg Bool.false_ne_true]
        congr 1
        have z := key n.toNat #[]
        rw [List.nil_append] at z
        rw [← z]
theorem xo_mul : OpR X (binaryOp .Mult) aMul := by
  intro pins s σ H x y u v Q I rx ry w
  unfold aMul at w
  split at w
  · exact op_mul pins s σ H _ _ u v Q I rx ry ⟨_, _, rfl, rfl, w.1, w.2⟩
  · obtain ⟨⟨h1, h2, h3⟩, q⟩ := w
    obtain ⟨t, rfl⟩ := rx
    obtain ⟨t', rfl⟩ := ry
    refine PySem.SB.mul (mulOk_of 1000 10000 h1 h3 (by omega) (by decide) (by decide)) fun t2 k => ?_
    rw [mul_codes _ _ h2]
    exact ⟨.str _, H, I.tok k, ⟨t2, rfl⟩, q⟩
  · exact w.elim
theorem xo_fdv : OpR X (binaryOp .FloorDiv) aFdv := by
  refine OpR.to op_fdivN fun x y H Q w => ?_
  unfold aFdv at w
  split at w
  · exact ⟨_, _, rfl, rfl, w.1, w.2⟩
  · exact w.elim
theorem xo_mod : OpR X (binaryOp .Mod) aMod := by
  refine OpR.to op_modN fun x y H Q w => ?_
  unfold aMod at w
  split at w
  · exact ⟨_, _, rfl, rfl, w.1, w.2⟩
  · exact w.elim
theorem xo_pow : OpR X (binaryOp .Pow) aPow := by
  refine OpR.to op_pow fun x y H Q w => ?_
  unfold aPow at w
  split at w
  · exact ⟨_, _, rfl, rfl, w.1, w.2⟩
  · exact w.elim
theorem xo_neg : UnR X (unaryOp .USub) aNeg := by
  intro pins s σ H x u Q I rx w
  unfold aNeg at w
  split at w
  · exact un_neg pins s σ H _ u Q I rx ⟨_, rfl, w⟩
  · exact w.elim
theorem cmp_to {f : Value → Value → Sem Value} {g : Int → Int → Bool} (h : OpR X f (rI0 fun i j => .bl (g i j))) : OpR X f (aCmp g) := by
  refine OpR.to h fun x y H Q w => ?_
  unfold aCmp at w
  split at w
  · exact ⟨_, _, rfl, rfl, w⟩
  · exact w.elim
theorem xo_lt : OpR X (compareOp .Lt) (aCmp fun i j => decide (i < j)) := cmp_to op_lt
theorem xo_le : OpR X (compareOp .LtE) (aCmp fun i j => decide (i ≤ j)) := cmp_to op_le
theorem xo_gt : OpR X (compareOp .Gt) (aCmp fun i j => decide (j < i)) := cmp_to op_gt
theorem xo_ge : OpR X (compareOp .GtE) (aCmp fun i j => decide (j ≤ i)) := cmp_to op_ge
theorem xo_eq (hu : X.A.units + 64 < cLine) : OpR X (compareOp .Eq) (aEq X.K) := by
  intro pins s σ H x y u v Q I rx ry w
  have sc : ∀ {b : Bool}, scal x y = true → decide (x = y) = b → Q (.bl b) H → wpAny (model X.prog X.w) X.A (compareOp .Eq u v) (EP X pins σ Q) X.xe s := fun h1 h2 q => op_eq pins s σ H x y u v Q I rx ry ⟨h1, by rw [h2]; exact q⟩
  unfold aEq at w
  split at w
  · exact sc rfl dec_int w
  · exact sc rfl dec_str w
  · exact sc rfl dec_bl w
  · exact sc rfl (by simp) w
  · exact sc rfl (by simp) w
  · exact sc rfl (by simp) w
  · exact sc rfl (by simp) w
  · exact sc rfl (by simp) w
  · exact sc rfl (by simp) w
  · exact sc rfl (by simp) w
  · exact sc rfl (by simp) w
  · exact sc rfl (by simp) w
  · exact sc rfl (by simp) w
  · exact sc rfl (by simp) w
  · exact op_eqD hu pins s σ H x y u v Q I rx ry w
theorem xo_ne (hu : X.A.units + 64 < cLine) : OpR X (compareOp .NotEq) (aNot (aEq X.K)) := by
  intro pins s σ H x y u v Q I rx ry w
  have sc : ∀ {b : Bool}, scal x y = true → decide (x = y) = b → Q (.bl (!b)) H → wpAny (model X.prog X.w) X.A (compareOp .NotEq u v) (EP X pins σ Q) X.xe s := fun h1 h2 q => op_ne pins s σ H x y u v Q I rx ry ⟨h1, by rw [h2]; exact q⟩
  unfold aNot aEq at w
  split at w
  · exact sc rfl dec_int w
  · exact sc rfl dec_str w
  · exact sc rfl dec_bl w
  · exact sc rfl (by simp) w
  · exact sc rfl (by simp) w
  · exact sc rfl (by simp) w
  · exact sc rfl (by simp) w
  · exact sc rfl (by simp) w
  · exact sc rfl (by simp) w
  · exact sc rfl (by simp) w
  · exact sc rfl (by simp) w
  · exact sc rfl (by simp) w
  · exact sc rfl (by simp) w
  · exact sc rfl (by simp) w
  · exact op_neD hu pins s σ H x y u v Q I rx ry w
theorem xo_in (hu : X.A.units + 64 < cLine) : OpR X (compareOp .In) (aIn X.K) := by
  intro pins s σ H x y u v Q I rx ry w
  unfold aIn at w
  split at w
  · obtain ⟨c, rfl, q⟩ := w
    exact op_in_sign pins s σ H _ _ u v Q I rx ry ⟨c, _, rfl, rfl, by simpa using q⟩
  · obtain ⟨xs, h1, h2, h3, q⟩ := w
    exact op_in_seq pins s σ H _ _ u v Q I rx ry ⟨_, xs, rfl, h1, h2, h3, by simpa using q⟩
  · exact w.elim
theorem xo_nin (hu : X.A.units + 64 < cLine) : OpR X (compareOp .NotIn) (aNot (aIn X.K)) := by
  intro pins s σ H x y u v Q I rx ry w
  unfold aNot aIn at w
  split at w
  · obtain ⟨c, rfl, q⟩ := w
    exact op_notIn_sign pins s σ H _ _ u v Q I rx ry ⟨c, _, rfl, rfl, by simpa using q⟩
  · obtain ⟨xs, h1, h2, h3, q⟩ := w
    exact op_notIn_seq pins s σ H _ _ u v Q I rx ry ⟨_, xs, rfl, h1, h2, h3, by simpa using q⟩
  · exact w.elim
theorem xo_is : OpR X (compareOp .Is) aIs := by
  intro pins s σ H x y u v Q I rx ry w
  unfold aIs at w
  split at w
  · exact op_isN pins s σ H _ _ u v Q I rx ry ⟨rfl, by simpa using w⟩
  · rename_i b
    obtain rfl : v = Value.bool b := ry
    have fin : ∀ {u : Value}, RelV x u → PySem.plainIs u (.bool b) = true → (u = .bool b ↔ x = .bl b) → wpAny (model X.prog X.w) X.A (compareOp .Is u (.bool b)) (EP X pins σ Q) X.xe s := fun {u} r hp e => by
      by_cases z : u = .bool b
      · have e2 := e.mp z
        subst z
        rw [decide_eq_true e2] at w
        exact wpAny_is_self rfl ⟨.bl true, H, I, rfl, w⟩
      · rw [decide_eq_false fun q => z (e.mpr q)] at w
        exact wpAny_is_other hp z ⟨.bl false, H, I, rfl, w⟩
    cases x with
    | non => cases rx; exact fin rfl rfl (by simp)
    | bl c => cases rx; exact fin rfl rfl (by simp)
    | int i => obtain ⟨t, rfl⟩ := rx; exact fin ⟨t, rfl⟩ rfl (by simp)
    | str i => obtain ⟨t, rfl⟩ := rx; exact fin ⟨t, rfl⟩ rfl (by simp)
    | byt i => obtain ⟨t, rfl⟩ := rx; exact fin ⟨t, rfl⟩ rfl (by simp)
    | flt i => obtain ⟨t, rfl⟩ := rx; exact fin ⟨t, rfl⟩ rfl (by simp)
    | ref i => cases rx; exact fin rfl rfl (by simp)
    | ty i => cases rx; exact fin rfl rfl (by simp)
  · exact w.elim
theorem xo_isnot : OpR X (compareOp .IsNot) (aNot aIs) := by
  intro pins s σ H x y u v Q I rx ry w
  unfold aNot aIs at w
  split at w
  · exact op_notN pins s σ H _ _ u v Q I rx ry ⟨rfl, by simpa using w⟩
  · rename_i b
    obtain rfl : v = Value.bool b := ry
    have fin : ∀ {u : Value}, RelV x u → PySem.plainIs u (.bool b) = true → (u = .bool b ↔ x = .bl b) → wpAny (model X.prog X.w) X.A (compareOp .IsNot u (.bool b)) (EP X pins σ Q) X.xe s := fun {u} r hp e => by
      by_cases z : u = .bool b
      · have e2 := e.mp z
        subst z
        rw [decide_eq_true e2] at w
        exact wpAny_isNot_self rfl ⟨.bl false, H, I, rfl, w⟩
      · rw [decide_eq_false fun q => z (e.mpr q)] at w
        exact wpAny_isNot_other hp z ⟨.bl true, H, I, rfl, w⟩
    cases x with
    | non => cases rx; exact fin rfl rfl (by simp)
    | bl c => cases rx; exact fin rfl rfl (by simp)
    | int i => obtain ⟨t, rfl⟩ := rx; exact fin ⟨t, rfl⟩ rfl (by simp)
    | str i => obtain ⟨t, rfl⟩ := rx; exact fin ⟨t, rfl⟩ rfl (by simp)
    | byt i => obtain ⟨t, rfl⟩ := rx; exact fin ⟨t, rfl⟩ rfl (by simp)
    | flt i => obtain ⟨t, rfl⟩ := rx; exact fin ⟨t, rfl⟩ rfl (by simp)
    | ref i => cases rx; exact fin rfl rfl (by simp)
    | ty i => cases rx; exact fin rfl rfl (by simp)
  · exact w.elim
/-! ### items, slices, len -/
def aIx (K : PySem.W.Frag) : R2 := fun x y H Q => match y with
  | .int i => (match x with
    | .str z => z.length ≤ sizeLine ∧ ∃ c, atI z.cps.toList i = some c ∧ Q (.str ⟨#[c]⟩) H
    | .ref p => ∃ xs, (SqL K H p xs ∨ SqT K H p xs) ∧ ∃ v, atI xs i = some v ∧ Q v H
    | _ => False)
  | _ => False
def aSl (K : PySem.W.Frag) : V → Option Int → Option Int → Hp → VK → Prop := fun x lo hi H Q => match x with
  | .str z => z.length ≤ sizeLine ∧ Q (.str ⟨((z.cps.toList.drop (HT.sIx z.length 0 lo)).take (HT.sIx z.length z.length hi - HT.sIx z.length 0 lo)).toArray⟩) H
  | .ref p => (∃ xs, SqL K H p xs ∧ ∀ q, H q = none → Q (.ref q) (upd H q (.lst (cutV xs lo hi)))) ∨ rSlA K (.ref p) lo hi H Q
  | _ => False
def aLen (K : PySem.W.Frag) (x : V) (H : Hp) (Q : VK) : Prop := match x with
  | .str z => z.length ≤ sizeLine ∧ Q (.int z.cps.toList.length) H
  | .ref p => ∃ xs, (SqL K H p xs ∨ SqT K H p xs) ∧ Q (.int xs.length) H
  | _ => False
/-- a call of one thing, by what it does with it -/
def on1 (r : V → Hp → VK → Prop) : List V → Hp → VK → Prop := fun xs H Q => match xs with
  | [x] => r x H Q
  | _ => False
def aAbs (x : V) (H : Hp) (Q : VK) : Prop := match x with
  | .int i => Q (.int (if i < 0 then -i else i)) H
  | _ => False
def aInt (x : V) (H : Hp) (Q : VK) : Prop := match x with
  | .int i => Q (.int i) H
  | .bl k => Q (.int (if k then 1 else 0)) H
  | _ => False
def aStr (x : V) (H : Hp) (Q : VK) : Prop := match x with
  | .int i => i.natAbs.log2 < 1920 ∧ Q (.str (toString i)) H
  | _ => False
def aTupOf (K : PySem.W.Frag) (x : V) (H : Hp) (Q : VK) : Prop := match x with
  | .ref p => ∃ ys, (SqL K H p ys ∧ ∀ l, H l = none → Q (.ref l) (upd H l (.tup ys))) ∨ (SqT K H p ys ∧ Q (.ref p) H)
  | _ => False
def aLstOf (K : PySem.W.Frag) (x : V) (H : Hp) (Q : VK) : Prop := match x with
  | .ref p => ∃ ys, (SqL K H p ys ∨ SqT K H p ys) ∧ ∀ l, H l = none → Q (.ref l) (upd H l (.lst ys))
  | _ => False
/-- the built-in classes by name -/
def isiS (t n : String) : Bool := t == n || (t == "bool" && n == "int")
def aIsi (K : PySem.W.Frag) (n : String) (x : V) (H : Hp) (Q : VK) : Prop := match x with
  | .non => Q (.bl (isiS "NoneType" n)) H
  | .bl _ => Q (.bl (isiS "bool" n)) H
  | .int _ => Q (.bl (isiS "int" n)) H
  | .str _ => Q (.bl (isiS "str" n)) H
  | .ref a => ((∃ xs, SqL K H a xs) ∧ Q (.bl (isiS "list" n)) H) ∨ ((∃ xs, SqT K H a xs) ∧ Q (.bl (isiS "tuple" n)) H) ∨ ((∃ kvs, H a = some (.dK kvs)) ∧ Q (.bl (isiS "dict" n)) H)
  | _ => False
def okTy (n : String) : Bool := n == "int" || n == "str" || n == "tuple" || n == "list" || n == "bool" || n == "dict"
theorem kit_isi : ∀ t n : String, (t = "NoneType" ∨ t = "bool" ∨ t = "int" ∨ t = "str" ∨ t = "list" ∨ t = "tuple" ∨ t = "dict") → okTy n = true → kitB t n = some (isiS t n) := by
  intro t n ht hn
  have hn' : n = "int" ∨ n = "str" ∨ n = "tuple" ∨ n = "list" ∨ n = "bool" ∨ n = "dict" := by
    unfold okTy at hn
    simp only [Bool.or_eq_true, beq_iff_eq] at hn
    rcases hn with ((((h | h) | h) | h) | h) | h <;> simp [h]
  rcases ht with rfl | rfl | rfl | rfl | rfl | rfl | rfl <;> rcases hn' with rfl | rfl | rfl | rfl | rfl | rfl <;> decide +kernel
section
variable {X : Cx}
theorem CallR.to {f : Value} {r r' : List V → Hp → VK → Prop} (h : CallR X f r) (i : ∀ xs H Q, r' xs H Q → r xs H Q) : CallR X f r' := fun pins s σ H xs us Q I rx w => h pins s σ H xs us Q I rx (i xs H Q w)
theorem xi_ix : IxR X (aIx X.K) := by
  intro value slice pins s σ H x y v u Q I rx ry w hs
  unfold aIx at w
  split at w
  · split at w
    · obtain ⟨h1, c, h2, q⟩ := w
      exact ix_str value slice pins s σ H _ _ v u Q I rx ry ⟨_, _, c, rfl, rfl, h1, h2, q⟩ hs
    · obtain ⟨xs, h1 | h1, c, h2, q⟩ := w
      · exact ix_list value slice pins s σ H _ _ v u Q I rx ry ⟨_, xs, _, c, rfl, rfl, h1, h2, q⟩ hs
      · exact ix_tup value slice pins s σ H _ _ v u Q I rx ry ⟨_, xs, _, c, rfl, rfl, h1, h2, q⟩ hs
    · exact w.elim
  · exact w.elim
theorem xs_sl : SlR X (aSl X.K) := by
  intro pins s σ H x v vl vu lo hi sl Q I rx hs pl pu w
  unfold aSl at w
  split at w
  · exact sl_str pins s σ H _ v vl vu lo hi sl Q I rx hs pl pu ⟨_, rfl, w.1, w.2⟩
  · rcases w with ⟨xs, h, q⟩ | w
    · exact sl_list pins s σ H _ v vl vu lo hi sl Q I rx hs pl pu ⟨_, xs, rfl, h, q⟩
    · exact sl_tupA pins s σ H _ v vl vu lo hi sl Q I rx hs pl pu w
  · exact w.elim
theorem on1_inv {r : V → Hp → VK → Prop} {xs : List V} {H : Hp} {Q : VK} (w : on1 r xs H Q) : ∃ x, xs = [x] ∧ r x H Q := by
  unfold on1 at w
  split at w
  · exact ⟨_, rfl, w⟩
  · exact w.elim
theorem xc_len : CallR X (.builtin "len") (on1 (aLen X.K)) := by
  refine CallR.to call_len fun xs H Q w => ?_
  obtain ⟨x, rfl, v⟩ := on1_inv w
  clear w
  unfold aLen at v
  split at v
  · exact ⟨_, _, rfl, ⟨v.1, rfl⟩, by simpa [Str.length] using v.2⟩
  · obtain ⟨xs, h | h, q⟩ := v
    · exact ⟨_, _, rfl, .inl ⟨xs, h, rfl⟩, q⟩
    · exact ⟨_, _, rfl, .inr ⟨xs, h, rfl⟩, q⟩
  · exact v.elim
theorem xc_abs : CallR X (.builtin "abs") (on1 aAbs) := by
  refine CallR.to call_abs fun xs H Q w => ?_
  obtain ⟨x, rfl, v⟩ := on1_inv w
  clear w
  unfold aAbs at v
  split at v
  · exact ⟨_, rfl, v⟩
  · exact v.elim
theorem xc_int : CallR X (.type "int") (on1 aInt) := by
  refine CallR.to call_int1 fun xs H Q w => ?_
  obtain ⟨x, rfl, v⟩ := on1_inv w
  clear w
  unfold aInt at v
  split at v
  · exact .inl ⟨_, rfl, v⟩
  · exact .inr ⟨_, rfl, v⟩
  · exact v.elim
theorem xc_str : CallR X (.type "str") (on1 aStr) := by
  refine CallR.to call_str_int fun xs H Q w => ?_
  obtain ⟨x, rfl, v⟩ := on1_inv w
  clear w
  unfold aStr at v
  split at v
  · exact ⟨_, rfl, v.1, v.2⟩
  · exact v.elim
theorem xc_tup : CallR X (.type "tuple") (on1 (aTupOf X.K)) := by
  refine CallR.to call_tuple_of fun xs H Q w => ?_
  obtain ⟨x, rfl, v⟩ := on1_inv w
  clear w
  unfold aTupOf at v
  split at v
  · obtain ⟨ys, v⟩ := v
    exact ⟨_, ys, rfl, v⟩
  · exact v.elim
theorem xc_lst : CallR X (.type "list") (on1 (aLstOf X.K)) := by
  refine CallR.to call_list_of fun xs H Q w => ?_
  obtain ⟨x, rfl, v⟩ := on1_inv w
  clear w
  unfold aLstOf at v
  split at v
  · obtain ⟨ys, h, q⟩ := v
    exact ⟨_, ys, rfl, h, q⟩
  · exact v.elim
/-- isinstance(x, a built-in class) -/
def on2T (n : String) (r : V → Hp → VK → Prop) : List V → Hp → VK → Prop := fun xs H Q => match xs with
  | [x, .ty m] => m = n ∧ r x H Q
  | _ => False
theorem xc_isi (n : String) (hn : okTy n = true) : CallR X (.builtin "isinstance") (on2T n (aIsi X.K n)) := by
  refine CallR.to call_isi fun xs H Q w => ?_
  unfold on2T at w
  split at w
  · obtain ⟨rfl, w⟩ := w
    rename_i x m
    have fin : ∀ {t : String} {b : Bool}, TyX X.K H x (.type t) → kitB t m = some b → Q (.bl b) H → rIsi X.K [x, .ty m] H Q := fun {t b} h1 h2 q => ⟨x, .ty m, .type t, .type m, b, rfl, .ty m, h1, kit_ty h2, q⟩
    unfold aIsi at w
    split at w
    · exact fin (.base .non) (kit_isi _ _ (by simp) hn) w
    · exact fin (.base (.bl _)) (kit_isi _ _ (by simp) hn) w
    · exact fin (.base (.int _)) (kit_isi _ _ (by simp) hn) w
    · exact fin (.base (.str _)) (kit_isi _ _ (by simp) hn) w
    · rcases w with ⟨⟨xs, h⟩, q⟩ | ⟨⟨xs, h⟩, q⟩ | ⟨⟨xs, h⟩, q⟩
      · rcases h with (h | ⟨o, h⟩) | ⟨o, its, k, h, hc, _⟩
        · exact fin (.base (.lst h)) (kit_isi _ _ (by simp) hn) q
        · exact fin (.base (.frz h)) (kit_isi _ _ (by simp) hn) q
        · exact fin (.kList h hc) (kit_isi _ _ (by simp) hn) q
      · rcases h with (h | ⟨o, h⟩) | ⟨o, its, k, h, hc, _⟩
        · exact fin (.base (.tup h)) (kit_isi _ _ (by simp) hn) q
        · exact fin (.fTuple h) (kit_isi _ _ (by simp) hn) q
        · exact fin (.kTuple h hc) (kit_isi _ _ (by simp) hn) q
      · exact fin (.base (.dK h)) (kit_isi _ _ (by simp) hn) q
    · exact w.elim
  · exact w.elim
/-- text.join(texts) -/
def aJoin (K : PySem.W.Frag) : V → List V → Hp → VK → Prop := fun x xs H Q => match x, xs with
  | .str a, [.ref p] => ∃ ys : List Str, (SqL K H p (ys.map V.str) ∨ SqT K H p (ys.map V.str)) ∧ (ys.map (·.length)).sum + ys.length * a.length ≤ 16777216 ∧ Q (.str (Txt.join a ys)) H
  | _, _ => False
def xM1 (r : V → List V → Hp → VK → Prop) (to te : TE) : TE := fun σ H Q => to σ H fun x H1 => match x with
  | .str a => te σ H1 fun y H2 => r (.str a) [y] H2 Q
  | _ => False
theorem MtR.to {id : String} {r r' : V → List V → Hp → VK → Prop} (h : MtR X id r) (i : ∀ x xs H Q, r' x xs H Q → r x xs H Q) : MtR X id r' := fun pins s σ H x xs v us Q I rx rs w => h pins s σ H x xs v us Q I rx rs (i x xs H Q w)
/-- xs.append(e) -/
def xApp (to te : TE) : TE := fun σ H Q => to σ H fun x H1 => match x with
  | .ref l => (∃ xs, H1 l = some (.lst xs)) ∧ te σ H1 fun y H2 => ∃ xs, H2 l = some (.lst xs) ∧ xs.length < sizeLine ∧ Q .non (upd H2 l (.lst (xs ++ [y])))
  | _ => False
section
variable {e o : Expr} {tob te ta tb : TE} {apos cpos pos : Pos}
theorem pe_app (ho : PE X o tob) (he : PE X e te) (hbase : attributeBase o "append" X.env (eval o X.env) = eval o X.env := by rfl) (hs : starEach [e] X.env = (false, eval e X.env) :: starEach [] X.env := by rfl) (hline : (apos.endLine == cpos.line) = true := by rfl)
    (hfew : ((backTo cpos (starEach [e] X.env)).all (fun x => !x.1) && (backToKw cpos (keywordEach [] X.env)).all (fun x => x.1.isSome) && decide (([e] : List Expr).length + ([] : List Keyword).length + (if ([] : List Keyword).isEmpty then 0 else 1) < 30)) = true := by rfl) :
    PE X (.Call (.Attribute o "append" apos) [e] [] cpos) (xApp tob te) := by
  refine PE.to (pe_bm PySem.F.plainAttrs_list PySem.F.slot_list_append PySem.F.type_list_append mt_append (PE.mo ho) (pa_cons (PE.mo he) pa_nil hs) hbase hfew hline hs rfl) fun σ H Q w => ⟨_, w, fun v H1 q => ?_⟩
  split at q
  · rename_i l
    obtain ⟨⟨xs, h⟩, q⟩ := q
    refine ⟨.inl ⟨rfl, xs, SqL.of h⟩, ⟨_, q, fun y H2 z => ?_⟩⟩
    obtain ⟨xs2, h1, h2, h3⟩ := z
    exact ⟨l, xs2, y, rfl, rfl, h1, h2, h3⟩
  · exact q.elim
/-- text.join(e) -/
def xJoin (K : PySem.W.Frag) (to te : TE) : TE := fun σ H Q => to σ H fun x H1 => match x with
  | .str a => te σ H1 fun y H2 => match y with
    | .ref p => ∃ ys : List Str, (SqL K H2 p (ys.map V.str) ∨ SqT K H2 p (ys.map V.str)) ∧ (ys.map (·.length)).sum + ys.length * a.length ≤ 16777216 ∧ Q (.str (Txt.join a ys)) H2
    | _ => False
  | _ => False
theorem pe_joi (ho : PE X o tob) (he : PE X e te) (hs : starEach [e] X.env = [(false, eval e X.env)] := by rfl) (hbase : attributeBase o "join" X.env (eval o X.env) = eval o X.env := by rfl) (hline : (apos.endLine == cpos.line) = true := by rfl) :
    PE X (.Call (.Attribute o "join" apos) [e] [] cpos) (xJoin X.K tob te) := by
  refine PE.to (pe_join (PE.mo ho) (PE.mo he) hs hbase hline) fun σ H Q w => ⟨_, w, fun v H1 q => ?_⟩
  split at q
  · refine ⟨⟨_, rfl⟩, _, q, fun y H2 z => ?_⟩
    split at z
    · obtain ⟨ys, h1, h2, h3⟩ := z
      exact ⟨_, _, ys, rfl, rfl, h1, h2, h3⟩
    · exact z.elim
  · exact q.elim
/-! ### tests -/
def xB (t : TE) : TT := fun σ H Q => t σ H fun x H1 => match x with
  | .bl k => Q k H1
  | _ => False
/-- a choice -/
def br (b : Bool) (p q : Prop) : Prop := match b with
  | true => p
  | false => q
theorem br_of {b : Bool} {p q : Prop} (h1 : b = true → p) (h2 : b = false → q) : br b p q := by
  cases b with
  | true => exact h1 rfl
  | false => exact h2 rfl
theorem br_if {b : Bool} {p q : Prop} (h : br b p q) : if b = true then p else q := by
  cases b with
  | true => exact h
  | false => exact h
theorem br_mo {b : Bool} {p q p' q' : Prop} (h : br b p q) (h1 : p → p') (h2 : q → q') : br b p' q' := by
  cases b with
  | true => exact h1 h
  | false => exact h2 h
theorem xt_cmp {op : CmpOp} {r : R2} (ho : OpR X (compareOp op) r) (ha : PE X e ta) (hb : PE X o tb) (hm : behindInMarks op o = false := by first | exact nomark _ | rfl) : PT X (.Compare e [op] [o] pos) (xB (tOp r ta tb)) := by
  refine PT.to (pt_cmpR (OpR.mo ho) (PE.mo ha) (PE.mo hb) hm) fun σ H Q w => ?_
  refine ⟨_, w, fun x H1 q => ⟨_, q, fun y H2 z => ⟨_, z, fun v H3 u => ?_⟩⟩⟩
  split at u
  · exact ⟨_, rfl, u⟩
  · exact u.elim
theorem xe_cmp {op : CmpOp} {r : R2} (ho : OpR X (compareOp op) r) (ha : PE X e ta) (hb : PE X o tb) (hm : behindInMarks op o = false := by first | exact nomark _ | rfl) : PE X (.Compare e [op] [o] pos) (tOp r ta tb) := pe_cmpR ho ha hb hm
/-- a value's truth -/
def aTru (K : PySem.W.Frag) (x : V) (H : Hp) (Q : Bool → Hp → Prop) : Prop := match x with
  | .non => Q false H
  | .bl k => Q k H
  | .int i => Q (i != 0) H
  | .str z => z.length ≤ sizeLine ∧ Q ((z.cps.toList.length : Int) != 0) H
  | .ref p => (∃ xs, (SqL K H p xs ∨ SqT K H p xs) ∧ Q (!xs.isEmpty) H) ∨ (∃ kvs, H p = some (.dK kvs) ∧ Q (!kvs.isEmpty) H)
  | _ => False
theorem aTru_of {K : PySem.W.Frag} {x : V} {H : Hp} {Q : Bool → Hp → Prop} (q : aTru K x H Q) : ∃ k, TruV K x H k ∧ Q k H := by
  unfold aTru at q
  split at q
  · exact ⟨false, rfl, q⟩
  · exact ⟨_, rfl, q⟩
  · exact ⟨_, rfl, q⟩
  · exact ⟨_, ⟨q.1, rfl⟩, by simpa [Str.length] using q.2⟩
  · rcases q with ⟨xs, h | h, q⟩ | ⟨kvs, h, q⟩
    · exact ⟨_, .inl ⟨xs, h, rfl⟩, q⟩
    · exact ⟨_, .inr (.inl ⟨xs, h, rfl⟩), q⟩
    · exact ⟨_, .inr (.inr ⟨kvs, h, rfl⟩), q⟩
  · exact q.elim
def xTru (K : PySem.W.Frag) (t : TE) : TT := fun σ H Q => t σ H fun x H1 => aTru K x H1 Q
theorem xt_tru (ha : PE X e ta) (he : ∀ whole, isTrue e X.env whole = (do let v ← whole; standAt e.pos; holding [v] (truthy v)) := by intro _; rfl) : PT X e (xTru X.K ta) :=
  PT.to (pt_truth (PE.mo ha) he) fun σ H Q w => ⟨_, w, fun x H1 q => aTru_of q⟩
def xAnd (t u : TT) : TT := fun σ H Q => t σ H fun c H1 => br c (u σ H1 Q) (Q false H1)
def xOr (t u : TT) : TT := fun σ H Q => t σ H fun c H1 => br c (Q true H1) (u σ H1 Q)
section
variable {a b c : Expr} {rest : List Expr} {tA tB' : TT}
theorem xw_and (ha : PT X a tA) (hb : PW X (.BoolOp .And (b :: rest) pos) tB') : PW X (.BoolOp .And (a :: b :: rest) pos) (xAnd tA tB') :=
  PW.to (pw_and (PT.mo ha) hb) fun _ _ _ w => ⟨_, w, fun _ _ q => br_if q⟩
theorem xw_or (ha : PT X a tA) (hb : PW X (.BoolOp .Or (b :: rest) pos) tB') : PW X (.BoolOp .Or (a :: b :: rest) pos) (xOr tA tB') :=
  PW.to (pw_or (PT.mo ha) hb) fun _ _ _ w => ⟨_, w, fun _ _ q => br_if q⟩
/-- and, or, not as values -/
def xAndV (K : PySem.W.Frag) (ta tb : TE) : TE := fun σ H Q => ta σ H fun x H1 => aTru K x H1 fun k H2 => br k (tb σ H2 Q) (Q x H2)
def xOrV (K : PySem.W.Frag) (ta tb : TE) : TE := fun σ H Q => ta σ H fun x H1 => aTru K x H1 fun k H2 => br k (Q x H2) (tb σ H2 Q)
def xNotV (K : PySem.W.Frag) (ta : TE) : TE := fun σ H Q => ta σ H fun x H1 => aTru K x H1 fun k H2 => Q (.bl (!k)) H2
theorem xe_and (ha : PE X a ta) (hb : PE X (.BoolOp .And (b :: rest) pos) tb) : PE X (.BoolOp .And (a :: b :: rest) pos) (xAndV X.K ta tb) := by
  refine PE.to (pe_andT (PE.mo ha) hb) fun σ H Q w => ⟨_, w, fun x H1 q => ?_⟩
  obtain ⟨k, h1, h2⟩ := aTru_of q
  exact ⟨k, h1, br_if h2⟩
theorem xe_or (ha : PE X a ta) (hb : PE X (.BoolOp .Or (b :: rest) pos) tb) : PE X (.BoolOp .Or (a :: b :: rest) pos) (xOrV X.K ta tb) := by
  refine PE.to (pe_orT (PE.mo ha) hb) fun σ H Q w => ⟨_, w, fun x H1 q => ?_⟩
  obtain ⟨k, h1, h2⟩ := aTru_of q
  exact ⟨k, h1, br_if h2⟩
theorem xe_not (ha : PE X a ta) : PE X (.UnaryOp .Not a pos) (xNotV X.K ta) := by
  refine PE.to (pe_notT (PE.mo ha)) fun σ H Q w => ⟨_, w, fun x H1 q => ?_⟩
  obtain ⟨k, h1, h2⟩ := aTru_of q
  exact ⟨k, h1, h2⟩
/-- a if t else b -/
def xIf (t : TT) (ta tb : TE) : TE := fun σ H Q => t σ H fun c H1 => br c (ta σ H1 Q) (tb σ H1 Q)
theorem xe_if (hc : PT X c tA) (ha : PE X a ta) (hb : PE X b tb) : PE X (.IfExp c a b pos) (xIf tA ta tb) :=
  PE.to (pe_ifExp (PT.mo hc) ha hb) fun _ _ _ w => ⟨_, w, fun _ _ q => br_if q⟩
/-- slices -/
def xPart (t : TE) : TO := fun σ H Q => t σ H fun x H1 => match x with
  | .int i => Q (some i) H1
  | .non => False
  | _ => False
theorem xp_some (h : PE X e te) : PO X (some e) (xPart te) := by
  have := po_some (PE.mo h)
  refine ⟨fun pins s σ H Q I w => this.run pins s σ H Q I ⟨_, w, fun x H1 q => ?_⟩⟩
  split at q
  · exact ⟨_, rfl, q⟩
  · exact q.elim
  · exact q.elim
end
/-! ### statements -/
section
variable {c : Expr} {a b : List Stmt} {tA : TT} {t u : TS}
def xIfS (c : TT) (t u : TS) : TS := fun D σ H => c σ H fun b H1 => br b (t D σ H1) (u D σ H1)
theorem xs_if (hc : PT X c tA) (ha : PSs X a t) (hb : PSs X b u) : PS X (.If c a b pos) (xIfS tA t u) :=
  PS.to (ps_if (PT.mo hc) ha hb) fun _ _ _ w => ⟨_, w, fun _ _ q => br_if q⟩
/-- while, by a word and a measure -/
def xWhile (c : TT) (tb : TS) : TS := fun D σ H => ∃ (Pv : L2.St → Hp → Prop) (μ : L2.St → Hp → Nat), Pv σ H ∧ ∀ σ H, Pv σ H → c σ H fun b H1 =>
  br b (tb { D with nx := fun σ' H' => Pv σ' H' ∧ μ σ' H' < μ σ H, ct := fun σ' H' => Pv σ' H' ∧ μ σ' H' < μ σ H, bk := D.nx } σ H1) (D.nx σ H1)
theorem xs_while (hp : PassesOwn (model X.prog X.w) X.A X.env X.xe) (hc : PT X c tA) (hb : PSs X a t) : PS X (.While c a [] pos) (xWhile tA t) := by
  refine PS.to (ps_while hp (PT.mo hc) hb) fun D σ H w => ?_
  obtain ⟨Pv, μ, h0, h⟩ := w
  refine ⟨fun m σ H => m = μ σ H ∧ Pv σ H, ⟨_, rfl, h0⟩, ?_⟩
  rintro m σ H ⟨rfl, p⟩
  refine ⟨_, h σ H p, fun b H1 q => ?_⟩
  cases b with
  | true => exact ⟨_, fun σ' H' ⟨p', l⟩ => ⟨_, l, rfl, p'⟩, q⟩
  | false => exact q
/-- name op= e -/
def xAug (i : Nat) (te : TE) (r : R2) : TS := fun D σ H => match σ[i]? with
  | some (some x) => te σ H fun y H1 => r x y H1 fun z H2 => D.nx (σ.set i (some z)) H2
  | _ => False
theorem xs_aug {i : Nat} {x : Str} {op : Operator} {r : R2} {pos' : Pos} (hN : X.N.Nodup) (ho : OpR X (inplaceOp op) r) (he : PE X e te) (hi : X.N[i]? = some x := by rfl) (hx : Loc X.env.scope x := by first | exact Or.inl rfl | exact Or.inr rfl)
    (hf : X.fn x = true ∨ X.env.scope.names.lookup x = some .local := by first | exact .inl rfl | exact .inr rfl | assumption) : PS X (.AugAssign (.Name x pos') op e pos) (xAug i te r) := by
  refine PS.to (ps_aug (ti := r) hN hi hx he (fun pins s σ H x y v u Q I rx ry h => ho pins s σ H x y v u Q I rx ry h) hf) fun D σ H w => ?_
  unfold xAug at w
  cases q : σ[i]? with
  | none => rw [q] at w; exact w.elim
  | some o =>
    cases o with
    | none => rw [q] at w; exact w.elim
    | some v => rw [q] at w; exact ⟨v, q, w⟩
def aIAdd : R2 := fun x y H Q => match x, y with
  | .int i, .int j => Q (.int (i + j)) H
  | .str i, .str j => i.length + j.length ≤ sizeLine ∧ Q (.str (i ++ j)) H
  | _, _ => False
theorem xi_add : OpR X (inplaceOp .Add) aIAdd := by
  intro pins s σ H x y u v Q I rx ry w
  unfold aIAdd at w
  split at w
  · exact iop_add pins s σ H _ _ u v Q I rx ry ⟨_, _, rfl, rfl, w⟩
  · exact iop_add_str pins s σ H _ _ u v Q I rx ry ⟨_, _, rfl, rfl, w.1, w.2⟩
  · exact w.elim
theorem xi_sub : OpR X (inplaceOp .Sub) aSub := by
  intro pins s σ H x y u v Q I rx ry w
  unfold aSub at w
  split at w
  · exact iop_sub pins s σ H _ _ u v Q I rx ry ⟨_, _, rfl, rfl, w⟩
  · exact w.elim
/-- x = e -/
theorem xs_set {i : Nat} {x : Str} {pos' : Pos} (hN : X.N.Nodup) (he : PE X e te) (hi : X.N[i]? = some x := by rfl) (hx : Loc X.env.scope x := by first | exact Or.inl rfl | exact Or.inr rfl) (hs : swapsWith e (some (.Name x pos')) pos.line X.env = pure false := by rfl)
    (hf : X.fn x = true ∨ X.env.scope.names.lookup x = some .local := by first | exact .inl rfl | exact .inr rfl | assumption) : PS X (.Assign [.Name x pos'] e pos) (tAsg te (gName i)) := ps_set hN hi hx he hs hf
/-- targets -/
theorem PG.to {g g' : TG} (h : PG X e g) (i : ∀ v σ H Q, g' v σ H Q → g v σ H Q) : PG X e g' := ⟨fun pins s σ H x u Q I r w => h.run pins s σ H x u Q I r (i x σ H Q w)⟩
def aSetL : TSet := fun o i v H Q => match o, i with
  | .ref p, .int k => ∃ xs j, H p = some (.lst xs) ∧ ixN xs.length k = some j ∧ Q (upd H p (.lst (xs.set j v)))
  | _, _ => False
theorem xg_setL : PSet X aSetL := by
  intro pins s σ H o i v ov iv u Q I ro ri rv w
  unfold aSetL at w
  split at w
  · obtain ⟨xs, j, h1, h2, q⟩ := w
    exact set_list pins s σ H _ _ v ov iv u Q I ro ri rv ⟨_, xs, _, j, rfl, rfl, h1, h2, q⟩
  · exact w.elim
def xgCons (t : TG) (u : TGs) : TGs := fun vs σ H Q => match vs with
  | v :: r => t v σ H fun σ' H' => u r σ' H' Q
  | [] => False
def xgNil : TGs := fun vs σ H Q => match vs with
  | [] => Q σ H
  | _ => False
def xgTup (K : PySem.W.Frag) (n : Nat) (t : TGs) : TG := fun v σ H Q => match v with
  | .ref a => ∃ xs, SqT K H a xs ∧ xs.length = n ∧ t xs σ H Q
  | _ => False
theorem PGs.to {es : List Expr} {g g' : TGs} (h : PGs X es g) (i : ∀ v σ H Q, g' v σ H Q → g v σ H Q) : PGs X es g' := ⟨fun pins s σ H x u Q I r w => h.run pins s σ H x u Q I r (i x σ H Q w)⟩
theorem xgs_nil : PGs X [] xgNil := PGs.to pgs_nil fun v σ H Q w => by
  unfold xgNil at w
  split at w
  · exact ⟨rfl, w⟩
  · exact w.elim
theorem xgs_cons {e : Expr} {es : List Expr} {t : TG} {u : TGs} (h1 : PG X e t) (h2 : PGs X es u)
    (hs : (assignEach (e :: es) X.env).map (·.2) = assign e X.env :: (assignEach es X.env).map (·.2) := by rfl) : PGs X (e :: es) (xgCons t u) := PGs.to (pgs_cons h1 h2 hs) fun v σ H Q w => by
  unfold xgCons at w
  split at w
  · exact ⟨_, _, rfl, w⟩
  · exact w.elim
theorem xg_tup {es : List Expr} {k : Nat} {t : TGs} {n : Nat} (hc : X.calm = true) (h : PGs X es t)
    (hn : (assignEach es X.env).length = n := by rfl) (hst : (assignEach es X.env).findIdx? (·.1) = none := by rfl) : PG X (.Tuple es k pos) (xgTup X.K n t) := PG.to (pg_tup hc h hn hst) fun v σ H Q w => by
  unfold xgTup at w
  split at w
  · obtain ⟨xs, h1, h2, h3⟩ := w
    exact ⟨_, xs, rfl, h1, h2, h3⟩
  · exact w.elim
theorem xg_nm {i : Nat} {x : Str} (hN : X.N.Nodup) (hi : X.N[i]? = some x := by rfl) (hx : Loc X.env.scope x := by first | exact Or.inl rfl | exact Or.inr rfl) (hf : X.fn x = true ∨ X.env.scope.names.lookup x = some .local := by first | exact .inl rfl | exact .inr rfl | assumption) : PG X (.Name x pos) (gName i) := pg_name hN hi hx hf
/-- x, y = a, b -/
def xPar (i j : Nat) (ta tb : TE) : TS := fun D σ H => ta σ H fun v H1 => tb σ H1 fun w H2 => D.nx ((σ.set i (some v)).set j (some w)) H2
end
/-! ### what is walked, how often, by what -/
abbrev TWk := L2.St → Hp → (Nat → (Hp → Prop) → (Nat → Hp → V → Hp → Prop) → Hp → Prop) → Prop
def PWk (X : Cx) (tg iter : Expr) (wk : TWk) : Prop := PI X tg iter (fun σ H R => ∃ S, wk σ H S ∧ ∀ n G Y H1 J, S n G Y H1 → Walk J n G Y → R J H1)
theorem PI.to {tg iter : Expr} {wi wi' : TI} (h : PI X tg iter wi) (i : ∀ σ H R, wi' σ H R → wi σ H R) : PI X tg iter wi' := ⟨fun pins s σ H R I w => h.run pins s σ H R I (i σ H R w)⟩
def tMoI (t : TI) : TI := fun σ H R => ∃ R0 : It → Hp → Prop, t σ H R0 ∧ ∀ J H', R0 J H' → R J H'
theorem PI.mo {tg iter : Expr} {wi : TI} (h : PI X tg iter wi) : PI X tg iter (tMoI wi) := ⟨fun pins s σ H R I w => by
  obtain ⟨R0, w, k⟩ := w
  exact thn (h.run pins s σ H R0 I w) fun u s' q => thn q fun v s2 ⟨it, fp, tn, J, H', h1, h2, h3, h4, h5, h6⟩ => ⟨it, fp, tn, J, H', h1, h2, h3, h4, h5, k J H' h6⟩⟩
def kSeq (K : PySem.W.Frag) (te : TE) : TWk := fun σ H R => te σ H fun x H1 => match x with
  | .ref a => ∃ xs, SqL K H1 a xs ∧ R xs.length (fun H => SqL K H a xs) (YAt xs) H1
  | _ => False
def kTupW (K : PySem.W.Frag) (te : TE) : TWk := fun σ H R => te σ H fun x H1 => match x with
  | .ref a => ∃ xs, SqT K H1 a xs ∧ R xs.length (fun H => SqT K H a xs) (YAt xs) H1
  | _ => False
def kStr (te : TE) : TWk := fun σ H R => te σ H fun x H1 => match x with
  | .str z => R z.cps.size (fun _ => True) (fun i H v H' => H' = H ∧ ∃ c, z.cps[i]? = some c ∧ v = .str ⟨#[c]⟩) H1
  | _ => False
def kRng1 (te : TE) : TWk := fun σ H R => te σ H fun x H1 => match x with
  | .int j => (-(2 ^ 62) ≤ j ∧ j < 2 ^ 62) ∧ R j.toNat (fun _ => True) (YFn fun i => .int (0 + i)) H1
  | _ => False
def kRng2 (ta tb : TE) : TWk := fun σ H R => ta σ H fun x H1 => tb σ H1 fun y H2 => match x, y with
  | .int i, .int j => (-(2 ^ 62) ≤ i ∧ i < 2 ^ 62 ∧ -(2 ^ 62) ≤ j ∧ j < 2 ^ 62) ∧ R (j - i).toNat (fun _ => True) (YFn fun k => .int (i + k)) H2
  | _, _ => False
def kEnL (K : PySem.W.Frag) (te : TE) : TWk := fun σ H R => te σ H fun x H1 => match x with
  | .ref a => ∃ xs, SqL K H1 a xs ∧ R xs.length (fun H => SqL K H a xs) (YPair (fun i => some (.int (i : Nat))) (fun i => xs[i]?)) H1
  | _ => False
def kEnS (te : TE) : TWk := fun σ H R => te σ H fun x H1 => match x with
  | .str z => R z.cps.size (fun _ => True) (YPair (fun i => some (.int (i : Nat))) (fun i => z.cps[i]?.map fun c => .str ⟨#[c]⟩)) H1
  | _ => False
section
variable {tg : Expr}
theorem xk_seq (h : PE X e te) : PWk X tg e (kSeq X.K te) := PI.to (pi_list (PE.mo h)) fun σ H R ⟨S, w, k⟩ => ⟨_, w, fun x H1 q => by
  split at q
  · obtain ⟨xs, h1, h2⟩ := q
    exact ⟨_, rfl, ⟨xs, h1⟩, k _ _ _ _ _ h2 walk_list⟩
  · exact q.elim⟩
theorem xk_tup (h : PE X e te) : PWk X tg e (kTupW X.K te) := PI.to (pi_tup (PE.mo h)) fun σ H R ⟨S, w, k⟩ => ⟨_, w, fun x H1 q => by
  split at q
  · obtain ⟨xs, h1, h2⟩ := q
    exact ⟨_, rfl, ⟨xs, h1⟩, k _ _ _ _ _ h2 walk_tup⟩
  · exact q.elim⟩
theorem xk_str (h : PE X e te) : PWk X tg e (kStr te) := PI.to (pi_str (PE.mo h)) fun σ H R ⟨S, w, k⟩ => ⟨_, w, fun x H1 q => by
  split at q
  · exact ⟨_, rfl, k _ _ _ _ _ q walk_str⟩
  · exact q.elim⟩
theorem xk_rng1 {p pos : Pos} (hg : Gl X "range") (hm : X.mg "range" = none) (h : PE X e te) (hs : starEach [e] X.env = [(false, eval e X.env)] := by rfl) : PWk X tg (.Call (.Name "range" p) [e] [] pos) (kRng1 te) :=
  PI.to (pi_range1 hg hm (pa_cons (PE.mo h) pa_nil hs) hs) fun σ H R ⟨S, w, k⟩ => ⟨_, w, fun x H1 q => by
  split at q
  · exact ⟨_, rfl, q.1.1, q.1.2, k _ _ _ _ _ q.2 walk_range⟩
  · exact q.elim⟩
theorem xk_rng2 {p pos : Pos} (hg : Gl X "range") (hm : X.mg "range" = none) (h : PE X e ta) (h' : PE X o tb) (hs : starEach [e, o] X.env = [(false, eval e X.env), (false, eval o X.env)] := by rfl) (hs2 : starEach [o] X.env = [(false, eval o X.env)] := by rfl) : PWk X tg (.Call (.Name "range" p) [e, o] [] pos) (kRng2 ta tb) :=
  PI.to (pi_range2 hg hm (pa_cons (PE.mo h) (pa_cons (PE.mo h') pa_nil hs2) (by rw [hs, hs2])) hs hs2) fun σ H R ⟨S, w, k⟩ => ⟨_, w, fun x H1 q => ⟨_, q, fun y H2 z => by
  split at z
  · exact ⟨_, _, rfl, z.1, k _ _ _ _ _ z.2 walk_range⟩
  · exact z.elim⟩⟩
theorem xk_enL {p pos tpos : Pos} {elts : List Expr} {kk : Nat} (hg : Gl X "enumerate") (hm : X.mg "enumerate" = none) (h : PE X e te) (hs : starEach [e] X.env = [(false, eval e X.env)] := by rfl) : PWk X (.Tuple elts kk tpos) (.Call (.Name "enumerate" p) [e] [] pos) (kEnL X.K te) :=
  PI.to (pi_enum hg hm (pa_cons (PE.mo h) pa_nil hs) hs) fun σ H R ⟨S, w, k⟩ => ⟨_, w, fun x H1 q => by
  split at q
  · obtain ⟨xs, h1, h2⟩ := q
    exact ⟨_, xs, rfl, h1, k _ _ _ _ _ h2 walk_enum⟩
  · exact q.elim⟩
theorem xk_enS {p pos tpos : Pos} {elts : List Expr} {kk : Nat} (hg : Gl X "enumerate") (hm : X.mg "enumerate" = none) (h : PE X e te) (hs : starEach [e] X.env = [(false, eval e X.env)] := by rfl) : PWk X (.Tuple elts kk tpos) (.Call (.Name "enumerate" p) [e] [] pos) (kEnS te) :=
  PI.to (pi_enumS hg hm (pa_cons (PE.mo h) pa_nil hs) hs) fun σ H R ⟨S, w, k⟩ => ⟨_, w, fun x H1 q => by
  split at q
  · exact ⟨_, rfl, k _ _ _ _ _ q walk_enumS⟩
  · exact q.elim⟩
/-- zip(tuple, tuple) -/
def kZipT (K : PySem.W.Frag) (ta tb : TE) : TWk := fun σ H R => ta σ H fun x H1 => tb σ H1 fun y H2 => match x, y with
  | .ref a, .ref b => ∃ xs ys, SqT K H2 a xs ∧ SqT K H2 b ys ∧ R (min xs.length ys.length) (fun H => SqT K H a xs ∧ SqT K H b ys) (YPair (fun i => xs[i]?) (fun i => ys[i]?)) H2
  | _, _ => False
theorem walk_zipT {K : PySem.W.Frag} {a b : Addr} {xs ys : List V} : Walk (RZ.ItzT K a b) (min xs.length ys.length) (fun H => SqT K H a xs ∧ SqT K H b ys) (YPair (fun i => xs[i]?) (fun i => ys[i]?)) := by
  refine ⟨fun i _ hi q => ?_, fun _ q => ⟨xs, ys, q.1, q.2, by omega⟩, fun i H v H' _ q y => ?_⟩
  · have h1 : i < xs.length := by omega
    have h2 : i < ys.length := by omega
    exact ⟨xs, ys, xs[i], ys[i], q.1, q.2, by simp [h1], by simp [h2]⟩
  · obtain ⟨T, x, z, h1, h2, h3, h4, h5⟩ := y
    exact ⟨T, x, z, h1, h2, h3, h4 xs q.1, h5 ys q.2⟩
end
/-- for: by the turn -/
def xFor (wk : TWk) (g : TG) (tb : TS) : TS := fun D σ H => wk σ H fun n G Y H1 => ∃ Pv : Nat → L2.St → Hp → Prop, Pv 0 σ H1 ∧ (∀ i σ H, i ≤ n → Pv i σ H → G H) ∧
  (∀ i x σ H H', i < n → Pv i σ H → Y i H x H' → g x σ H' fun σ2 H2 => tb { D with nx := Pv (i + 1), ct := Pv (i + 1), bk := D.nx } σ2 H2) ∧ ∀ σ H, Pv n σ H → D.nx σ H
theorem xs_for {tg iter : Expr} {body : List Stmt} {wk : TWk} {g : TG} {tb : TS} {pos : Pos} (hp : PassesOwn (model X.prog X.w) X.A X.env X.xe) (hc : X.calm = true) (hi : PWk X tg iter wk) (hg : PG X tg g) (hb : PSs X body tb)
    (hs : ∀ x, foldedSetIterable iter X.env x = pure x := by intro _; rfl) : PS X (.For tg iter body [] pos) (xFor wk g tb) := by
  refine PS.to (ps_for hp hc hi hg hb hs) fun D σ H w => ?_
  refine ⟨_, w, fun n G Y H1 J q hw => ?_⟩
  obtain ⟨Pv, h0, hG, hst, hd⟩ := q
  exact for_it hw Pv h0 hG hst hd
/-- [elt for target in iter if ..] -/
def xLc (wk : TWk) (g : TG) (tt : TT) (te : TE) (vs : List Nat) : TE := fun σ H Q => wk σ H fun n G Y H1 => ∀ D, H1 D = none → ∃ Pv : Nat → Hp → Prop, Pv 0 (upd H1 D (.lst [])) ∧ (∀ i H, i ≤ n → Pv i H → G H) ∧
  (∀ i x H H', i < n → Pv i H → Y i H x H' → g x (wipe σ vs) H' fun σ2 H2 => wipe σ2 vs = wipe σ vs ∧ tt σ2 H2 fun b H3 =>
    br b (te σ2 H3 fun y H4 => ∃ acc, H4 D = some (.lst acc) ∧ acc.length < sizeLine ∧ Pv (i + 1) (upd H4 D (.lst (acc ++ [y])))) (Pv (i + 1) H3)) ∧ ∀ H, Pv n H → Q (.ref D) H
theorem PTs.mo {ifs : List Expr} {t : TT} (h : PTs X ifs t) : PTs X ifs (tMoT t) := ⟨fun pins s σ H Q I w => by
  obtain ⟨Q0, w, k⟩ := w
  exact thn (h.run pins s σ H Q0 I w) fun u s' ⟨H', I', q⟩ => ⟨H', I', k u H' q⟩⟩
theorem PG.mo {g : TG} (h : PG X e g) : PG X e (fun v σ H Q => ∃ Q0 : L2.St → Hp → Prop, g v σ H Q0 ∧ ∀ σ' H', Q0 σ' H' → Q σ' H') := ⟨fun pins s σ H v u Q I r w => by
  obtain ⟨Q0, w, k⟩ := w
  exact thn (h.run pins s σ H v u Q0 I r w) fun u s' ⟨σ', H', I', q⟩ => ⟨σ', H', I', k σ' H' q⟩⟩
theorem xe_lc {elt tg iter : Expr} {ifs : List Expr} {scope : Scope} {own : List (Str × Nat)} {pos : Pos} {wk : TWk} {g : TG} {tt : TT} {te : TE} (hc : X.calm = true) (hN : X.N.Nodup) (hi : PWk X tg iter wk) (ok : BlkOk X.N X.env.scope scope own)
    (hg : ∀ (s : Shared) (H : Hp) (C : Addr) (cl : List (Str × Addr)) (fp : List Addr), PG (X.blk s H scope (compEnvC scope cl C X.env) fp) tg g) (ht : ∀ (s : Shared) (H : Hp) (C : Addr) (cl : List (Str × Addr)) (fp : List Addr), PTs (X.blk s H scope (compEnvC scope cl C X.env) fp) ifs tt)
    (he : ∀ (s : Shared) (H : Hp) (C : Addr) (cl : List (Str × Addr)) (fp : List Addr), PE (X.blk s H scope (compEnvC scope cl C X.env) fp) elt te) (hs : ∀ x, foldedSetIterable iter X.env x = pure x := by intro _; rfl) :
    PE X (.ListComp elt [⟨tg, iter, ifs, 0⟩] scope pos) (xLc wk g tt te (own.map (·.2))) := by
  refine PE.to (pe_lc hc hN hi ok (fun s H C cl fp => PG.mo (hg s H C cl fp)) (fun s H C cl fp => PTs.mo (ht s H C cl fp)) he hs) fun σ H Q w => ?_
  refine ⟨_, w, fun n G Y H1 J q hw D hD => ?_⟩
  obtain ⟨Pv, h0, hG, hst, hd⟩ := q D hD
  refine lc_it (g := fun v σ H (Q : L2.St → Hp → Prop) => ∃ Q0 : L2.St → Hp → Prop, g v σ H Q0 ∧ ∀ σ' H', Q0 σ' H' → Q σ' H') (tt := tMoT tt) (te := te) hw Pv h0 hG (fun i x H H' hi p y => ?_) hd
  refine ⟨_, hst i x H H' hi p y, fun σ2 H2 z => ⟨z.1, _, z.2, fun b H3 u => br_if u⟩⟩
theorem xk_zipT {p pos tpos : Pos} {elts : List Expr} {kk : Nat} (hg : Gl X "zip") (hm : X.mg "zip" = none) (h : PE X e ta) (h' : PE X o tb)
    (hs : starEach [e, o] X.env = (false, eval e X.env) :: starEach [o] X.env := by rfl) (hs2 : starEach [o] X.env = (false, eval o X.env) :: starEach [] X.env := by rfl) (hpl : (backTo pos (starEach [o] X.env)).any (·.1) = false := by rfl) :
    PWk X (.Tuple elts kk tpos) (.Call (.Name "zip" p) [e, o] [] pos) (kZipT X.K ta tb) :=
  PI.to (RZ.pi_zipA hg hm (pa_cons (PE.mo h) (pa_cons (PE.mo h') pa_nil hs2) hs) hs hpl) fun σ H R ⟨S, w, k⟩ => ⟨_, w, fun x H1 q => ⟨_, q, fun y H2 z => by
  split at z
  · obtain ⟨xs, ys, h1, h2, h3⟩ := z
    exact ⟨_, _, xs, ys, rfl, .inr ⟨h1, h2, k _ _ _ _ _ h3 walk_zipT⟩⟩
  · exact z.elim⟩⟩
/-- a text, a list or a tuple -/
def kAny (K : PySem.W.Frag) (te : TE) : TWk := fun σ H R => te σ H fun x H1 => match x with
  | .str z => R z.cps.size (fun _ => True) (fun i H v H' => H' = H ∧ ∃ c, z.cps[i]? = some c ∧ v = .str ⟨#[c]⟩) H1
  | .ref a => (∃ xs, SqL K H1 a xs ∧ R xs.length (fun H => SqL K H a xs) (YAt xs) H1) ∨ (∃ xs, SqT K H1 a xs ∧ R xs.length (fun H => SqT K H a xs) (YAt xs) H1)
  | _ => False
/-- enumerate(a text, a list) -/
def kEn (K : PySem.W.Frag) (te : TE) : TWk := fun σ H R => te σ H fun x H1 => match x with
  | .str z => R z.cps.size (fun _ => True) (YPair (fun i => some (.int (i : Nat))) (fun i => z.cps[i]?.map fun c => .str ⟨#[c]⟩)) H1
  | .ref a => ∃ xs, SqL K H1 a xs ∧ R xs.length (fun H => SqL K H a xs) (YPair (fun i => some (.int (i : Nat))) (fun i => xs[i]?)) H1
  | _ => False
theorem xk_any {tg : Expr} (he : PE X e te) : PWk X tg e (kAny X.K te) := by
  refine ⟨fun pins s σ H R I h => ?_⟩
  obtain ⟨S, w, k⟩ := h
  refine thn (he.run pins s σ H _ I w) fun v s1 ⟨x, H1, I1, r1, q1⟩ => ?_
  cases x with
  | str z =>
    obtain ⟨t, rfl⟩ := r1
    cases ha : z.cps.all (· < 128)
    · exact wpAny_pyIter_wide ha (pi_one (tk := s1.toks) I1 _ (turn_str _ z t "str_iterator" (.inr rfl)) ⟨_, Heap.get?_push_size _ rfl, rfl, rfl⟩ (k _ _ _ _ _ q1 walk_str))
    · exact wpAny_pyIter_ascii ha (pi_one (tk := s1.toks) I1 _ (turn_str _ z t "str_ascii_iterator" (.inl rfl)) ⟨_, Heap.get?_push_size _ rfl, rfl, rfl⟩ (k _ _ _ _ _ q1 walk_str))
  | ref a =>
    cases r1
    rcases q1 with ⟨xs, hq, q⟩ | ⟨xs, hq, q⟩
    · obtain ⟨its, rv, p, hz⟩ := I1.list hq
      exact wpAny_pyIter_list p.isList (pi_one (tk := s1.toks) I1 _ (turn_list a _) ⟨_, Heap.get?_push_size _ rfl, rfl, rfl⟩ (k _ _ _ _ _ q walk_list))
    · obtain ⟨its, rv, p, hz⟩ := I1.tuple hq
      exact wpAny_pyIter_tuple (show s1.heap.IsTuple a its.toArray from p) (pi_one (tk := s1.toks) I1 _ (turn_tuple a _) ⟨_, Heap.get?_push_size _ rfl, rfl, rfl⟩ (k _ _ _ _ _ q walk_tup))
  | non => exact (show False from q1).elim
  | bl _ => exact (show False from q1).elim
  | int _ => exact (show False from q1).elim
  | byt _ => exact (show False from q1).elim
  | flt _ => exact (show False from q1).elim
  | ty _ => exact (show False from q1).elim
theorem xk_en {p pos tpos : Pos} {elts : List Expr} {kk : Nat} (hg : Gl X "enumerate") (hm : X.mg "enumerate" = none) (he : PE X e te) (hs : starEach [e] X.env = [(false, eval e X.env)] := by rfl) : PWk X (.Tuple elts kk tpos) (.Call (.Name "enumerate" p) [e] [] pos) (kEn X.K te) := by
  refine ⟨fun pins s σ H R I h => ?_⟩
  obtain ⟨S, w, k⟩ := h
  refine Call_ (ld_blt I hg hm boot_enumerate (PyProof.Rows.callWith_type1 (thn ((pa_cons (PE.mo he) pa_nil hs).run pos pins s σ H (fun vs H1 => ∃ x, vs = [x] ∧ (match x with
    | .str z => S z.cps.size (fun _ => True) (YPair (fun i => some (.int (i : Nat))) (fun i => z.cps[i]?.map fun c => .str ⟨#[c]⟩)) H1
    | .ref a => ∃ xs, SqL X.K H1 a xs ∧ S xs.length (fun H => SqL X.K H a xs) (YPair (fun i => some (.int (i : Nat))) (fun i => xs[i]?)) H1
    | _ => False)) I ⟨_, w, fun x H1 q => ⟨x, rfl, q⟩⟩) fun us s1 ⟨vs, H1, I1, r1, q1⟩ => ?_) hs rfl))
  obtain ⟨x, ex, q1⟩ := q1
  subst ex
  have fp : ∀ b ∈ [s1.heap.objs.size + 1, s1.heap.objs.size], FpOk X pins H1 b := fun b hb => by
    have e' : b = s1.heap.objs.size + 1 ∨ b = s1.heap.objs.size := by simpa using hb
    have hle : s1.heap.objs.size ≤ b := by
      rcases e' with z | z
      · rw [z]; exact Nat.le_add_right _ _
      · rw [z]; exact Nat.le_refl _
    exact I1.fpOk hle (I1.hok.fresh hle)
  cases r1 with
  | cons r rr =>
    cases rr
    split at q1
    · rename_i z
      obtain ⟨t, rfl⟩ := r
      refine call_enumerate_str fun h' he hit hsz hk => wpAny_pyIter_enum he ?_
      have I2 : Inv X pins σ H1 { s1 with heap := h' } := I1.kept (t' := s1.toks) hk
      exact ⟨s1.heap.objs.size + 1, [s1.heap.objs.size + 1, s1.heap.objs.size], _, _, H1, rfl, I2, turn_enumS z t (s1.heap.objs.size + 1) s1.heap.objs.size, ⟨⟨.none, he⟩, hit, Nat.succ_ne_self _, Nat.zero_le _⟩, fp, k _ _ _ _ _ q1 walk_enumS⟩
    · rename_i a
      cases r
      obtain ⟨xs, hq, q⟩ := q1
      obtain ⟨its, rv, p', hz⟩ := I1.list hq
      refine call_enumerate_list p'.isList fun h' he hit hsz hk => wpAny_pyIter_enum he ?_
      have I2 : Inv X pins σ H1 { s1 with heap := h' } := I1.kept (t' := s1.toks) hk
      exact ⟨s1.heap.objs.size + 1, [s1.heap.objs.size + 1, s1.heap.objs.size], _, _, H1, rfl, I2, turn_enum a (s1.heap.objs.size + 1) s1.heap.objs.size, ⟨⟨.none, he⟩, hit, Nat.succ_ne_self _⟩, fp, k _ _ _ _ _ q walk_enum⟩
    · exact q1.elim
/-- a < b < c -/
def xChain (r r' : R2) (ta tb tc : TE) : TE := fun σ H Q => ta σ H fun x H1 => tb σ H1 fun y H2 => r x y H2 fun z H3 => match z with
  | .bl k => br k (tc σ H3 fun w H4 => r' y w H4 Q) (Q (.bl false) H3)
  | _ => False
theorem xe_chain {op op' : CmpOp} {r r' : R2} {c : Expr} {tc : TE} (ho : OpR X (compareOp op) r) (ho' : OpR X (compareOp op') r') (ha : PE X e ta) (hb : PE X o tb) (hc : PE X c tc) (hm : lastMarks [op, op'] [o, c] = false := by with_unfolding_all rfl) : PE X (.Compare e [op, op'] [o, c] pos) (xChain r r' ta tb tc) := by
  refine PE.to (pe_chain (OpR.mo ho) ho' (PE.mo ha) (PE.mo hb) hc hm) fun σ H Q w => ⟨_, w, fun x H1 q => ⟨_, q, fun y H2 q => ⟨_, q, fun z H3 q => ?_⟩⟩⟩
  split at q
  · exact ⟨_, rfl, br_if q⟩
  · exact q.elim
theorem xt_chain {op op' : CmpOp} {r r' : R2} {c : Expr} {tc : TE} (ho : OpR X (compareOp op) r) (ho' : OpR X (compareOp op') r') (ha : PE X e ta) (hb : PE X o tb) (hc : PE X c tc) (hm : lastMarks [op, op'] [o, c] = false := by with_unfolding_all rfl) : PT X (.Compare e [op, op'] [o, c] pos) (xB (xChain r r' ta tb tc)) := by
  have f : ∀ {z : V} {H : Hp} {Q : Bool → Hp → Prop}, (match z with | .bl k => Q k H | _ => False) → ∃ k, z = .bl k ∧ Q k H := fun {z H Q} u => by
    split at u
    · exact ⟨_, rfl, u⟩
    · exact u.elim
  refine PT.to (pt_chain (OpR.mo ho) (OpR.mo ho') (PE.mo ha) (PE.mo hb) (PE.mo hc) hm) fun σ H Q w => ⟨_, w, fun x H1 q => ⟨_, q, fun y H2 q => ⟨_, q, fun z H3 q => ?_⟩⟩⟩
  split at q
  · refine ⟨_, rfl, br_if (br_mo q (fun q => ⟨_, q, fun v H4 q => ⟨_, q, fun v H5 q => f q⟩⟩) fun q => f q)⟩
  · exact q.elim
/-- name = [..] -/
theorem xs_setLc {i : Nat} {y : Str} {py : Pos} {elt tg iter : Expr} {ifs : List Expr} {scope : Scope} {own : List (Str × Nat)} {pos spos : Pos} {wk : TWk} {g : TG} {tt : TT} {te : TE} (hc : X.calm = true) (hN : X.N.Nodup) (hi : PWk X tg iter wk) (ok : BlkOk X.N X.env.scope scope own)
    (hg : ∀ (s : Shared) (H : Hp) (C : Addr) (cl : List (Str × Addr)) (fp : List Addr), PG (X.blk s H scope (compEnvC scope cl C X.env) fp) tg g) (ht : ∀ (s : Shared) (H : Hp) (C : Addr) (cl : List (Str × Addr)) (fp : List Addr), PTs (X.blk s H scope (compEnvC scope cl C X.env) fp) ifs tt)
    (he : ∀ (s : Shared) (H : Hp) (C : Addr) (cl : List (Str × Addr)) (fp : List Addr), PE (X.blk s H scope (compEnvC scope cl C X.env) fp) elt te) (hy : X.N[i]? = some y := by rfl) (hyl : X.env.scope.names.lookup y = some .local := by rfl)
    (hsw : swapsWith (.ListComp elt [⟨tg, iter, ifs, 0⟩] scope pos) (some (.Name y py)) spos.line X.env = pure true := by exact sw_true rfl rfl rfl rfl) (hs : ∀ x, foldedSetIterable iter X.env x = pure x := by intro _; rfl) :
    PS X (.Assign [.Name y py] (.ListComp elt [⟨tg, iter, ifs, 0⟩] scope pos) spos) (tAsg (xLc wk g tt te (own.map (·.2))) (gName i)) := by
  refine PS.to (ps_setLc hc hN hy hyl hsw hi ok (fun s H C cl fp => PG.mo (hg s H C cl fp)) (fun s H C cl fp => PTs.mo (ht s H C cl fp)) he hs) fun D σ H w => ?_
  have w : xLc wk g tt te (own.map (·.2)) σ H fun x H1 => gName i x σ H1 D.nx := w
  show tLc _ _ _ _ _ σ H _
  refine ⟨_, w, fun n G Y H1 J q hw D' hD => ?_⟩
  obtain ⟨Pv, h0, hG, hst, hd⟩ := q D' hD
  refine lc_it (g := fun v σ H (Q : L2.St → Hp → Prop) => ∃ Q0 : L2.St → Hp → Prop, g v σ H Q0 ∧ ∀ σ' H', Q0 σ' H' → Q σ' H') (tt := tMoT tt) (te := te) hw Pv h0 hG (fun i x H H' hi p y => ?_) hd
  refine ⟨_, hst i x H H' hi p y, fun σ2 H2 z => ⟨z.1, _, z.2, fun b H3 u => br_if u⟩⟩
/-! ### defs that are called -/
structure Cal (P : Program) (w : World) (K : PySem.W.Frag) (mg : Str → Option Value) (base : Heap) (k : Nat) (x : Str) (ps : List Str) (sp : Sp) : Prop where
  ex : ∃ (f : Addr) (fd : FuncData), FnOk P w K mg base (L2.CX P w) k f fd ps sp ∧ mg x = some (.ref f) ∧ PySem.W.keepIn K (.ref f) = true ∧ Binds K fd ps []
theorem Cal.up {P : Program} {w : World} {K : PySem.W.Frag} {mg : Str → Option Value} {base : Heap} {j k : Nat} {x : Str} {ps : List Str} {sp : Sp} (F : Cal P w K mg base j x ps sp) (h : j ≤ k) : Cal P w K mg base k x ps sp := by
  obtain ⟨f, fd, a, b⟩ := F.ex
  exact ⟨⟨f, fd, a.mono h, b⟩⟩
theorem Cal.to {P : Program} {w : World} {K : PySem.W.Frag} {mg : Str → Option Value} {base : Heap} {k : Nat} {x : Str} {ps : List Str} {sp sp' : Sp} (F : Cal P w K mg base k x ps sp) (h : ∀ vs H Q E, sp' vs H Q E → sp vs H Q E) : Cal P w K mg base k x ps sp' := by
  obtain ⟨f, fd, a, b⟩ := F.ex
  exact ⟨⟨f, fd, a.imp h, b⟩⟩
def xCall (sp : Sp) (E : XK) (t : TA) : TE := fun σ H Q => t σ H fun vs H1 => sp vs H1 Q E
theorem xe_call {k : Nat} {x : Str} {ps : List Str} {sp : Sp} {es : List Expr} {t : TA} {E : XK} {W : WX} {p pos : Pos} (F : Cal X.prog X.w X.K X.mg X.base k x ps sp) (hr : Room k X.A) (tk : Takes X W) (ha : PA X (e :: es) t) (hg : Gl X x := by rfl) (hW : ∀ cls d σ H, E cls d H → W cls d σ H := by exact fun _ _ _ _ z => z)
    (hs : starEach (e :: es) X.env = (false, eval e X.env) :: starEach es X.env := by rfl) (hpl : (backTo pos (starEach es X.env)).any (·.1) = false := by rfl) (hd : (x == ("__debug__" : Str)) = false := by decide) : PE X (.Call (.Name x p) (e :: es) [] pos) (xCall sp E t) := by
  obtain ⟨f, fd, a, b, c, d⟩ := F.ex
  refine PE.to (pe_call a hr hg b c d .nil (passes_call tk hW) (PA.mo ha) hd hs hpl) fun σ H Q w => ⟨_, w, fun vs H1 q => ?_⟩
  show sp (vs ++ []) H1 Q E
  rw [List.append_nil]
  exact q
end
end
end
end Wh
set_option Elab.async false
set_option linter.all false
set_option maxRecDepth 100000
set_option maxHeartbeats 2000000
/-! WCal: names, own errors, try, parallel stores; what the generator uses. -/
namespace Wh
open PySem PySem.Spec PyProof.Rows L2 He
theorem bb_len : bootBuiltins "len" = some (.builtin "len") := by decide +kernel
theorem bb_abs : bootBuiltins "abs" = some (.builtin "abs") := by decide +kernel
theorem bb_isinstance : bootBuiltins "isinstance" = some (.builtin "isinstance") := by decide +kernel
theorem bb_int : bootBuiltins "int" = some (.type "int") := by decide +kernel
theorem bb_str : bootBuiltins "str" = some (.type "str") := by decide +kernel
theorem bb_bool : bootBuiltins "bool" = some (.type "bool") := by decide +kernel
theorem bb_tuple : bootBuiltins "tuple" = some (.type "tuple") := by decide +kernel
theorem bb_list : bootBuiltins "list" = some (.type "list") := by decide +kernel
theorem bb_dict : bootBuiltins "dict" = some (.type "dict") := by decide +kernel
section
variable {X : Cx} {e : Expr} {es : List Expr} {x : Str} {pos : Pos}
theorem xe_gint {i : Int} (h : ∃ t, X.mg x = some (.int i t)) (hg : Gl X x := by rfl) (hd : (x == ("__debug__" : Str)) = false := by decide) : PE X (.Name x pos) (tC (.int i)) := by
  obtain ⟨t, e⟩ := h
  exact pe_glob hg e ⟨t, rfl⟩ hd
theorem xe_gstr {z : Str} (h : ∃ t, X.mg x = some (.str z t)) (hg : Gl X x := by rfl) (hd : (x == ("__debug__" : Str)) = false := by decide) : PE X (.Name x pos) (tC (.str z)) := by
  obtain ⟨t, e⟩ := h
  exact pe_glob hg e ⟨t, rfl⟩ hd
theorem xe_gref {a : Addr} (h : X.mg x = some (.ref a)) (hg : Gl X x := by rfl) (hd : (x == ("__debug__" : Str)) = false := by decide) : PE X (.Name x pos) (tC (.ref a)) := pe_glob hg h rfl hd
theorem xe_ty {T : String} (h : X.mg x = none) (hv : bootBuiltins x = some (.type T)) (hg : Gl X x := by rfl) (hn : x ≠ "__name__" := by decide) (hd : (x == ("__debug__" : Str)) = false := by decide) : PE X (.Name x pos) (tC (.ty T)) := pe_bltn hg h hv rfl hn hd
theorem xe_cb {id : String} {r : List V → Hp → VK → Prop} {t : TA} {p : Pos} (hc : CallR X (.builtin id) r) (hm : X.mg x = none) (hv : bootBuiltins x = some (.builtin id)) (ha : PA X (e :: es) t) (hg : Gl X x := by rfl) (hn : x ≠ "__name__" := by decide) (hdb : (x == ("__debug__" : Str)) = false := by decide)
    (he : starEach (e :: es) X.env = (false, eval e X.env) :: starEach es X.env := by rfl) (hpl : (backTo pos (starEach es X.env)).any (·.1) = false := by rfl) : PE X (.Call (.Name x p) (e :: es) [] pos) (tCB r t) := pe_callB hc hg hm hv ha hn hdb he hpl
theorem xe_ct {T : String} {r : List V → Hp → VK → Prop} {t : TA} {p : Pos} (hc : CallR X (.type T) r) (hm : X.mg x = none) (hv : bootBuiltins x = some (.type T)) (ha : PA X (e :: es) t) (hg : Gl X x := by rfl) (hn : x ≠ "__name__" := by decide) (hdb : (x == ("__debug__" : Str)) = false := by decide)
    (he : starEach (e :: es) X.env = (false, eval e X.env) :: starEach es X.env := by rfl) (hpl : (backTo pos (starEach es X.env)).any (·.1) = false := by rfl) : PE X (.Call (.Name x p) (e :: es) [] pos) (tCB r t) := pe_callTy hc hg hm hv ha hn hdb he hpl
/-- an own error, by its name -/
structure ErK (P : Program) (K : PySem.W.Frag) (mg : Str → Option Value) (x : Str) (fs : List Str) : Prop where
  ex : ∃ (fI : Addr) (qual : Str) (params : Arguments) (body : List Stmt) (scope : Scope) (file : Str), ErrC K (ga K x) fs ∧ IniF K (ga K x) fI fs qual params body scope file ∧ IniT fs params body scope ∧ fs ≠ [] ∧ fs.length ≤ 900 ∧
    (∀ (s : Shared) (x : Addr) (us : List Value) (fd : FuncData), us.length = fs.length → fd.params = params → fd.scope = scope → fd.defaults = .none → fd.kwdefaults = .none → BindsTo s fd ⟨.ref x :: us, []⟩ (("self", .ref x) :: fs.zip us)) ∧
    mg "super" = none ∧ ((P.main.file : Str) == file) = true ∧ (P.main.scope.names.lookup ("super" : Str)).isSome = false ∧ mg x = some (.ref (ga K x))
theorem xm_err {fs : List Str} {ta : TA} {p : Pos} {k : Nat} (T : ErK X.prog X.K X.mg x fs) (hr : Room (k + 2) X.A) (ha : PA X (e :: es) ta) (hg : Gl X x := by rfl) (hdb : (x == ("__debug__" : Str)) = false := by decide)
    (he : starEach (e :: es) X.env = (false, eval e X.env) :: starEach es X.env := by rfl) (hpl : (backTo pos (starEach es X.env)).any (·.1) = false := by rfl) : PMk X (.Call (.Name x p) (e :: es) [] pos) (tMkE (ga X.K x) fs ta) := by
  obtain ⟨fI, qual, params, body, scope, file, a1, a2, a3, a4, a5, a6, a7, a8, a9, a10⟩ := T.ex
  exact pmk_err a1 a2 a3 a4 a5 a6 a7 a8 a9 hg a10 hr ha hdb he hpl
/-- raise x(..) -/
def xRaise (W : WX) (t : L2.St → Hp → XK → Prop) : TS := fun _ σ H => t σ H fun cls d H' => W cls d σ H'
theorem xs_raise {W : WX} {t : L2.St → Hp → XK → Prop} (tk : Takes X W) (he : PMk X e t) (hc : X.calm = true := by rfl) : PS X (.Raise (some e) none pos) (xRaise W t) := ps_raise hc tk he
/-- x, y = a, b (locals) -/
theorem xs_par {i j : Nat} {x y : Str} {a b : Expr} {ta tb : TE} {px py pt : Pos} {kt k2 pt2} (hN : X.N.Nodup) (ha : PE X a ta) (hb : PE X b tb) (hi : X.N[i]? = some x := by rfl) (hj : X.N[j]? = some y := by rfl) (hij : i ≠ j := by decide)
    (hx : X.env.scope.names.lookup x = some .local := by rfl) (hy : X.env.scope.names.lookup y = some .local := by rfl) (hc : X.calm = true := by rfl)
    (h2 : starEach [a, b] X.env = (false, eval a X.env) :: starEach [b] X.env := by rfl) (h1 : starEach [b] X.env = (false, eval b X.env) :: starEach [] X.env := by rfl)
    (hw : swappedStores [.Tuple [.Name x px, .Name y py] kt pt] (.Tuple [a, b] k2 pt2) X.env = pure (some [x, y]) := by rfl)
    (hs : swapsWithSole [.Tuple [.Name x px, .Name y py] kt pt] (.Tuple [a, b] k2 pt2) pos.line X.env = pure false := by rfl) :
    PS X (.Assign [.Tuple [.Name x px, .Name y py] kt pt] (.Tuple [a, b] k2 pt2) pos) (xPar i j ta tb) :=
  PS.to (ps_par hc hN hi hj hij hx hy (pa_cons (PE.mo ha) (pa_cons (PE.mo hb) pa_nil h1) h2) hw hs) fun D σ H w => ⟨_, w, fun v H1 q => ⟨_, q, fun u H2 z => ⟨v, u, rfl, z⟩⟩⟩
end
theorem all_ix {K : PySem.W.Frag} {l : List (PySem.W.Frag → Bool)} {f : PySem.W.Frag → Bool} (h : (l.all fun f => f K) = true) (i : Nat) (e : l[i]? = some f) : f K = true := List.all_eq_true.mp h f (List.mem_of_getElem? e)
end Wh
set_option Elab.async false
set_option linter.all false
set_option maxRecDepth 100000
set_option maxHeartbeats 4000000
/-! WLaw: the helpers that all laws share, what they promise. -/
namespace Wh
open PySem PySem.Spec PyProof.Rows L2 He
/-! ### data -/
section
variable {K : PySem.W.Frag} {H H' : Hp}
theorem lay_map {α : Type} {f : α → PyData} (h : ∀ x, (f x).canLay0 = true) : ∀ xs : List α, PyData.canLayAll0 (xs.map f) = true
  | [] => by simp only [List.map_nil, PyData.canLayAll0]
  | x :: xs => by
    rw [List.map_cons, PyData.canLayAll0, h x, lay_map h xs]
    rfl
theorem dep_map {α : Type} {f : α → PyData} {n : Nat} (h : ∀ x, (f x).depth ≤ n) : ∀ xs : List α, PyData.depthAll (xs.map f) ≤ n
  | [] => by simp only [List.map_nil, PyData.depthAll]; omega
  | x :: xs => by
    have h1 := h x
    have h2 := dep_map h xs
    simp only [List.map_cons, PyData.depthAll]
    omega
theorem shaped_lm {α : Type} {f : α → PyData} {n : Nat} (h : ∀ x, (f x).canLay0 = true) (h2 : ∀ x, (f x).depth ≤ n) (hn : n ≤ 63) (xs : List α) : SeqAt.shaped (.list (xs.map f)) = true := by
  have h1 := dep_map h2 xs
  have h3 : PyData.depth (.list (xs.map f)) ≤ 64 := by
    simp only [PyData.depth]
    omega
  show (PyData.canLay0 (.list (xs.map f)) && decide (PyData.depth (.list (xs.map f)) ≤ 64)) = true
  rw [Bool.and_eq_true]
  exact ⟨by simp only [PyData.canLay0]; exact lay_map h xs, decide_eq_true h3⟩
theorem shaped_tm {α : Type} {f : α → PyData} {n : Nat} (h : ∀ x, (f x).canLay0 = true) (h2 : ∀ x, (f x).depth ≤ n) (hn : n ≤ 63) (xs : List α) : SeqAt.shaped (.tuple (xs.map f)) = true := by
  have h1 := dep_map h2 xs
  have h3 : PyData.depth (.tuple (xs.map f)) ≤ 64 := by
    simp only [PyData.depth]
    omega
  show (PyData.canLay0 (.tuple (xs.map f)) && decide (PyData.depth (.tuple (xs.map f)) ≤ 64)) = true
  rw [Bool.and_eq_true]
  exact ⟨by simp only [PyData.canLay0]; exact lay_map h xs, decide_eq_true h3⟩
theorem shaped_ints (xs : List Int) : SeqAt.shaped (.list (xs.map PyData.int)) = true := shaped_lm (n := 0) (fun _ => by simp only [PyData.canLay0]) (fun _ => by simp [PyData.depth]) (by decide) xs
theorem dpAll_map {α : Type} {g : α → V} {f : α → PyData} (h : ∀ x, Dp K H (g x) (f x)) : ∀ xs : List α, DpAll K H (xs.map g) (xs.map f)
  | [] => .nil
  | x :: xs => .cons (h x) (dpAll_map h xs)
theorem dp_ints {a : Addr} {xs : List Int} (h : SqL K H a (xs.map V.int)) : Dp K H (.ref a) (.list (xs.map PyData.int)) := .lst h (dpAll_map (fun i => .int i) xs)
theorem eqvAll_nil : ∀ xs : List PyData, PyData.eqvAll xs [] = xs.isEmpty
  | [] => by simp [PyData.eqvAll]
  | _ :: _ => by simp [PyData.eqvAll]
mutual
theorem dp_xt (x : Xt [] H H') : ∀ {v : V} {d : PyData}, Dp K H v d → Dp K H' v d
  | _, _, .non => .non
  | _, _, .bl b => .bl b
  | _, _, .int i => .int i
  | _, _, .str z => .str z
  | _, _, .lst h q => .lst (x.lst0 h) (dpAll_xt x q)
  | _, _, .tup h q => .tup (x.tup h) (dpAll_xt x q)
theorem dpAll_xt (x : Xt [] H H') : ∀ {vs : List V} {ds : List PyData}, DpAll K H vs ds → DpAll K H' vs ds
  | _, _, .nil => .nil
  | _, _, .cons h q => .cons (dp_xt x h) (dpAll_xt x q)
end
/-- == by data -/
theorem aEq_dp {x y : V} {d e : PyData} {Q : VK} (hx : Dp K H x d) (hy : Dp K H y e) (s1 : SeqAt.shaped d = true) (s2 : SeqAt.shaped e = true) (q : Q (.bl (PyData.eqv d e)) H) : aEq K x y H Q := by
  cases hx with
  | non =>
    cases hy with
    | non => simpa [PyData.eqv, aEq] using q
    | bl b => simpa [PyData.eqv, aEq] using q
    | int b => simpa [PyData.eqv, aEq] using q
    | str b => simpa [PyData.eqv, aEq] using q
    | lst h h2 => exact ⟨_, _, .non, .lst h h2, s1, s2, q⟩
    | tup h h2 => exact ⟨_, _, .non, .tup h h2, s1, s2, q⟩
  | bl b =>
    cases hy with
    | non => simpa [PyData.eqv, aEq] using q
    | bl c => simpa [PyData.eqv, aEq] using q
    | int c => exact ⟨_, _, .bl _, .int _, s1, s2, q⟩
    | str c => simpa [PyData.eqv, aEq] using q
    | lst h h2 => exact ⟨_, _, .bl _, .lst h h2, s1, s2, q⟩
    | tup h h2 => exact ⟨_, _, .bl _, .tup h h2, s1, s2, q⟩
  | int b =>
    cases hy with
    | non => simpa [PyData.eqv, aEq] using q
    | bl c => exact ⟨_, _, .int _, .bl _, s1, s2, q⟩
    | int c => simpa [PyData.eqv, aEq] using q
    | str c => simpa [PyData.eqv, aEq] using q
    | lst h h2 => exact ⟨_, _, .int _, .lst h h2, s1, s2, q⟩
    | tup h h2 => exact ⟨_, _, .int _, .tup h h2, s1, s2, q⟩
  | str b =>
    cases hy with
    | non => simpa [PyData.eqv, aEq] using q
    | bl c => simpa [PyData.eqv, aEq] using q
    | int c => simpa [PyData.eqv, aEq] using q
    | str c => simpa [PyData.eqv, aEq] using q
    | lst h h2 => exact ⟨_, _, .str _, .lst h h2, s1, s2, q⟩
    | tup h h2 => exact ⟨_, _, .str _, .tup h h2, s1, s2, q⟩
  | lst h h2 => cases hy <;> exact ⟨_, _, .lst h h2, by first | exact .non | exact .bl _ | exact .int _ | exact .str _ | exact .lst (by assumption) (by assumption) | exact .tup (by assumption) (by assumption), s1, s2, q⟩
  | tup h h2 => cases hy <;> exact ⟨_, _, .tup h h2, by first | exact .non | exact .bl _ | exact .int _ | exact .str _ | exact .lst (by assumption) (by assumption) | exact .tup (by assumption) (by assumption), s1, s2, q⟩
theorem aNe_dp {x y : V} {d e : PyData} {Q : VK} (hx : Dp K H x d) (hy : Dp K H y e) (s1 : SeqAt.shaped d = true) (s2 : SeqAt.shaped e = true) (q : Q (.bl (!PyData.eqv d e)) H) : aNot (aEq K) x y H Q := aEq_dp hx hy s1 s2 q
end
/-! ### the box of what is drawn -/
def Box (H : Hp) (b : Addr) : Prop := ∃ (a : Addr) (rest : List Int) (s : Int), H b = some (.lst [.ref a, .int s]) ∧ H a = some (.lst (rest.map V.int)) ∧ rest.length ≤ 63
theorem box_ne {H : Hp} {a b : Addr} {rest : List Int} {s : Int} (hb : H b = some (.lst [.ref a, .int s])) (ha : H a = some (.lst (rest.map V.int))) : a ≠ b := fun e => by
  rw [e, hb] at ha
  cases rest with
  | nil => cases ha
  | cons r rs => simp at ha
theorem Box.xt {H H' : Hp} {b : Addr} (h : Box H b) (x : Xt [] H H') : Box H' b := by
  obtain ⟨a, rest, s, h1, h2, h3⟩ := h
  exact ⟨a, rest, s, x.get h1, x.get h2, h3⟩
theorem Box.new {H : Hp} {b p : Addr} {o : HO} (h : Box H b) (n : H p = none) : Box (upd H p o) b := h.xt (.new n)
theorem Box.there {H : Hp} {b : Addr} (h : Box H b) : ∃ xs, H b = some (.lst xs) := let ⟨_, _, _, h1, _⟩ := h; ⟨_, h1⟩
def sp_law_box (K : PySem.W.Frag) : Sp := fun vs H Q _ => ∃ (a : Addr) (ns : List Int), vs = [.ref a] ∧ SqL K H a (ns.map V.int) ∧ ∀ b H', Xt [] H H' → H b = none → Box H' b → Q (.ref b) H'
def sp_law_take (_K : PySem.W.Frag) : Sp := fun vs H Q _ => ∃ (b : Addr) (many : Int), vs = [.ref b, .int many] ∧ 0 < many ∧ many < 2 ^ 30 ∧ Box H b ∧ ∀ k H', 0 ≤ k → k < many → Xt [b] H H' → Box H' b → Q (.int k) H'
def sp_law_pick (K : PySem.W.Frag) : Sp := fun vs H Q _ => ∃ (b l : Addr) (xs : List V), vs = [.ref b, .ref l] ∧ l ≠ b ∧ (SqL K H l xs ∨ SqT K H l xs) ∧ 0 < xs.length ∧ xs.length < 2 ^ 30 ∧ Box H b ∧ ∀ v H', v ∈ xs → Xt [b] H H' → Box H' b → Q v H'
/-! the own sameness -/
mutual
def lawIs : PyData → PyData → Bool
  | .tuple xs, .tuple ys => lawAll xs ys
  | _, .tuple _ => false
  | .none, .none => true
  | _, .none => false
  | .bool a, .bool b => a == b
  | _, .bool _ => false
  | .int i, .int j => i == j
  | _, .int _ => false
  | .str x, .str y => x == y
  | _, .str _ => false
  | _, _ => false
def lawAll : List PyData → List PyData → Bool
  | [], [] => true
  | x :: xs, y :: ys => lawIs x y && lawAll xs ys
  | _, _ => false
end
/-! how many things -/
mutual
def wD : PyData → Nat
  | .tuple xs => 1 + wDs xs
  | .list xs => 1 + wDs xs
  | _ => 1
def wDs : List PyData → Nat
  | [] => 0
  | x :: xs => wD x + wDs xs
end
theorem wD_pos : ∀ d : PyData, 1 ≤ wD d := fun d => by cases d <;> simp [wD] <;> omega
theorem wDs_len : ∀ ds : List PyData, ds.length ≤ wDs ds
  | [] => by simp [wDs]
  | x :: xs => by
    have h1 := wD_pos x
    have h2 := wDs_len xs
    simp only [wDs, List.length_cons]
    omega
theorem wD_get : ∀ {ds : List PyData} {i : Nat} {d : PyData}, ds[i]? = some d → wD d ≤ wDs ds
  | [], _, _, e => by simp at e
  | x :: xs, 0, _, e => by simp at e; subst e; simp only [wDs]; omega
  | x :: xs, i + 1, d, e => by
    have := wD_get (ds := xs) (i := i) (d := d) (by simpa using e)
    simp only [wDs]
    omega
theorem wDs_map {α : Type} {f : α → PyData} (h : ∀ x, wD (f x) = 1) : ∀ xs : List α, wDs (xs.map f) = xs.length
  | [] => rfl
  | x :: xs => by rw [List.map_cons, wDs, h, wDs_map h xs, List.length_cons]; omega
theorem big : (10000000 : Nat) ≤ sizeLine := by rw [sizeLine_eq]; decide
/-- told and due as data, the due one at most n deep -/
def sp_law_is_n (n : Nat) (K : PySem.W.Frag) : Sp := fun vs H Q _ => ∃ (x y : V) (d e : PyData), vs = [x, y] ∧ Dp K H x d ∧ Dp K H y e ∧ e.depth ≤ n ∧ wD e ≤ 1000000 ∧ ∀ H', Xt [] H H' → Q (.bl (lawIs d e)) H'
def sp_law_is (K : PySem.W.Frag) : Sp := sp_law_is_n 40 K
end Wh
set_option Elab.async false
set_option linter.all false
set_option maxRecDepth 100000
set_option maxHeartbeats 4000000
/-! WLawP: the shared helpers keep their promises. -/
namespace Wh
open PySem PySem.Spec PyProof.Rows L2 He
def r_law_take (K : PySem.W.Frag) (E : XK) : TS := (tSeq (xIfS (xB (tOp (aNot (aEq K)) (tOp (aIx K) (xVar 0) (tC (.int 0))) (tLst tNil))) (tSeq (tAsg (tOp (aIx K) (tOp (aIx K) (xVar 0) (tC (.int 0))) (tC (.int 0))) (gName 2)) (tSeq (tAsg (tOp (aAdd K) (xIf (xB (tOp (aCmp fun i j => decide (j ≤ i)) (xVar 2) (xVar 1))) (tLst (tCons (tOp aFdv (xVar 2) (xVar 1)) tNil)) (tLst tNil)) (tSl (aSl K) (tOp (aIx K) (xVar 0) (tC (.int 0))) (xPart (tC (.int 1))) tNoPart)) (gSub (xVar 0) (tC (.int 0)) aSetL)) (tRet (tOp aMod (tCB (on1 aInt) (tCons (xVar 2) tNil)) (xVar 1))))) tNext) (tSeq (tAsg (tOp aMod (tCB (on1 aInt) (tCons (tOp aMul (tOp (aIx K) (xVar 0) (tC (.int 1))) (tC (.int 48271))) tNil)) (tC (.int 2147483647))) (gSub (xVar 0) (tC (.int 1)) aSetL)) (tRet (tOp aMod (tCB (on1 aInt) (tCons (tOp aFdv (tOp (aAdd K) (tOp aMul (tOp (aIx K) (xVar 0) (tC (.int 1))) (tC (.int 69621))) (tC (.int 7))) (tC (.int 1013))) tNil)) (xVar 1)))))
theorem fmod_pos (i : Int) {j : Int} (h : 0 < j) : 0 ≤ i.fmod j ∧ i.fmod j < j := ⟨Int.fmod_nonneg_of_pos _ h, Int.fmod_lt_of_pos _ h⟩
theorem p_law_take {K : PySem.W.Frag} (vs : List V) (H : Hp) (Q : VK) (E : XK) (h : sp_law_take K vs H Q E) : r_law_take K E { nx := fun _ H' => Q .non H', rt := Q } (start ["box", "many", "cell"] vs) H := by
  obtain ⟨b, many, rfl, h0, h1, ⟨a, rest, s, hb, ha, hl⟩, hQ⟩ := h
  have hab := box_ne hb ha
  refine ⟨_, .inl (.of hb), .ref a, rfl, by decide, fun p hp => ?_⟩
  have npa : a ≠ p := ne_of_none ha hp
  have npb : b ≠ p := ne_of_none hb hp
  have hb2 : upd H p (.lst []) b = some (.lst [.ref a, .int s]) := by rw [upd_ne npb]; exact hb
  have ha2 : upd H p (.lst []) a = some (.lst (rest.map V.int)) := by rw [upd_ne npa]; exact ha
  refine aNe_dp (dp_ints (xs := rest) (.of ha2)) (dp_ints (xs := []) (.of upd_same)) (shaped_ints _) (shaped_ints _) ?_
  conv => whnf
  refine br_of (fun e => ?_) fun e => ?_
  · cases rest with
    | nil => simp [PyData.eqv, PyData.eqvAll] at e
    | cons c r =>
      refine ⟨_, .inl (.of hb2), .ref a, rfl, _, .inl (.of ha2), .int c, atI_nat (j := 0) rfl, ?_⟩
      have fin : ∀ (p1 : Addr) (H1 : Hp) (ys : List Int), ys.length ≤ 1 → Xt [] H H1 → H1 p1 = some (.lst (ys.map V.int)) →
        tSl (aSl K) (tOp (aIx K) (xVar 0) (tC (V.int 0))) (xPart (tC (V.int 1))) tNoPart [some (.ref b), some (.int many), some (.int c)] H1 fun y H2 => aAdd K (.ref p1) y H2 fun x H3 =>
          gSub (xVar 0) (tC (V.int 0)) aSetL x [some (.ref b), some (.int many), some (.int c)] H3 fun σ H4 => tRet (tOp aMod (tCB (on1 aInt) (tCons (xVar 2) tNil)) (xVar 1)) { nx := fun _ H' => Q .non H', rt := Q } σ H4 := by
        intro p1 H1 ys hy x1 e1
        have hb3 := x1.get hb
        have ha3 := x1.get ha
        refine ⟨_, .inl (.of hb3), .ref a, atI_nat (j := 0) rfl, .inl ⟨_, .of ha3, fun q hq => ?_⟩⟩
        have n1 : p1 ≠ q := ne_of_none e1 hq
        have n2 : b ≠ q := ne_of_none hb3 hq
        have cut : cutV (List.map V.int (c :: r)) (some 1) none = r.map V.int := by
          unfold cutV
          have z := HT.sIx_nat (List.map V.int (c :: r)).length 0 1
          have z1 : HT.sIx (List.map V.int (c :: r)).length 0 (some 1) = min 1 (List.map V.int (c :: r)).length := z
          rw [z1, HT.sIx_none]
          simp
          exact List.take_of_length_le (by simp)
        refine .inl ⟨ys.map V.int, r.map V.int, by rw [upd_ne n1]; exact e1, by rw [upd_same, cut], ?_, fun q2 hq2 => ?_⟩
        · have := big
          simp at hl ⊢
          omega
        have n3 : b ≠ q2 := fun z => by
          rw [← z, upd_ne n2, hb3] at hq2
          cases hq2
        have x2 : Xt [] H (upd (upd H1 q (.lst (cutV (List.map V.int (c :: r)) (some 1) none))) q2 (.lst (ys.map V.int ++ r.map V.int))) := (x1.trans (.new hq)).trans (.new hq2)
        refine ⟨_, 0, x2.get hb, rfl, ?_⟩
        refine ⟨by omega, ?_⟩
        have f := fmod_pos c h0
        refine hQ _ _ f.1 f.2 ((x2.mono fun _ z => absurd z List.not_mem_nil).trans (.put (List.mem_singleton_self b) (x2.get hb) (fun _ z => by cases z) (fun _ _ z => by cases z))) ?_
        refine ⟨q2, ys ++ r, s, by rw [upd_same]; rfl, by rw [upd_ne (Ne.symm n3), upd_same, List.map_append], ?_⟩
        simp at hl ⊢
        omega
      have x1 : Xt [] H (upd H p (.lst [])) := .new hp
      conv => whnf
      refine br_of (fun e2 => ?_) fun e2 => ?_
      · refine ⟨⟨by omega, by omega⟩, Nat.le_trans (by simp) big, fun p2 hp2 => ?_⟩
        exact fin p2 _ [c.fdiv many] (by simp) (x1.trans (.new hp2)) upd_same
      · refine ⟨by decide, fun p2 hp2 => ?_⟩
        exact fin p2 _ [] (by simp) (x1.trans (.new hp2)) upd_same
  · have x1 : Xt [] H (upd H p (.lst [])) := .new hp
    refine ⟨_, .inl (.of hb2), .int s, atI_nat (j := 1) rfl, ⟨.inr (by decide), by decide, ?_⟩⟩
    refine ⟨_, 1, hb2, rfl, ?_⟩
    refine ⟨_, .inl (.of upd_same), .int _, atI_nat (j := 1) rfl, ⟨.inr (by decide), ⟨by decide, by decide⟩, by omega, ?_⟩⟩
    have f := fmod_pos ((((s * 48271).fmod 2147483647 * 69621 + 7)).fdiv 1013) h0
    refine hQ _ _ f.1 f.2 ((x1.mono fun _ z => absurd z List.not_mem_nil).trans (.put (List.mem_singleton_self b) hb2 (fun _ z => by cases z) (fun _ _ z => by cases z))) ?_
    exact ⟨a, rest, _, by rw [upd_same]; rfl, by rw [upd_ne hab]; exact ha2, hl⟩
def r_law_pick (K : PySem.W.Frag) (E : XK) : TS := (tRet (tOp (aIx K) (xVar 1) (xCall (sp_law_take K) E (tCons (xVar 0) (tCons (tCB (on1 (aLen K)) (tCons (xVar 1) tNil)) tNil)))))
theorem p_law_pick {K : PySem.W.Frag} (vs : List V) (H : Hp) (Q : VK) (E : XK) (h : sp_law_pick K vs H Q E) : r_law_pick K E { nx := fun _ H' => Q .non H', rt := Q } (start ["box", "some"] vs) H := by
  obtain ⟨b, l, xs, rfl, hlb, hq, h0, h1, hB, hQ⟩ := h
  refine ⟨xs, hq, ?_⟩
  refine ⟨b, xs.length, rfl, by omega, by omega, hB, fun k H' k0 k1 x hB' => ?_⟩
  have hq' : SqL K H' l xs ∨ SqT K H' l xs := hq.imp (fun z => x.lst (by simpa using hlb) z) fun z => x.tup z
  obtain ⟨j, rfl⟩ : ∃ j : Nat, k = j := ⟨k.toNat, by omega⟩
  have hj : j < xs.length := by omega
  refine ⟨xs, hq', xs[j], atI_nat (by simp [hj]), hQ _ _ (List.getElem_mem hj) x hB'⟩
def r_law_box (K : PySem.W.Frag) (E : XK) : TS := (tSeq (xPar 1 2 (tLst tNil) (tC (.int 40503))) (tSeq (xFor (kEn K (tSl (aSl K) (xVar 0) tNoPart (xPart (tC (.int 63))))) (xgTup K 2 (xgCons (gName 3) (xgCons (gName 4) xgNil))) (tSeq (tAsg (tOp (aAdd K) (tOp aMul (tCB (on1 aAbs) (tCons (xVar 4) tNil)) (tC (.int 2))) (tCB (on1 aInt) (tCons (tOp (aCmp fun i j => decide (i < j)) (xVar 4) (tC (.int 0))) tNil))) (gName 5)) (tSeq (xIfS (xB (tOp (aCmp fun i j => decide (j ≤ i)) (tCB (on1 aAbs) (tCons (xVar 4) tNil)) (tOp aPow (tC (.int 10)) (tC (.int 18))))) (tDrop (xApp (xVar 1) (tCB (on1 aAbs) (tCons (xVar 4) tNil)))) tNext) (tAsg (tOp (aAdd K) (tOp aMod (tCB (on1 aInt) (tCons (tOp (aAdd K) (tOp (aAdd K) (tOp aMul (xVar 2) (tC (.int 48271))) (tOp aMul (tOp aMod (tCB (on1 aInt) (tCons (xVar 5) tNil)) (tC (.int 2147483629))) (tOp (aAdd K) (tOp aMul (tC (.int 2)) (xVar 3)) (tC (.int 69621))))) (tC (.int 11))) tNil)) (tC (.int 2147483629))) (tC (.int 1))) (gName 2))))) (tRet (tLst (tCons (xVar 1) (tCons (xVar 2) tNil))))))
theorem p_law_box {K : PySem.W.Frag} (vs : List V) (H : Hp) (Q : VK) (E : XK) (h : sp_law_box K vs H Q E) : r_law_box K E { nx := fun _ H' => Q .non H', rt := Q } (start ["script", "rest", "state", "k", "cell", "size"] vs) H := by
  obtain ⟨a, ns, rfl, hs, hQ⟩ := h
  refine ⟨by decide, fun p hp => ?_⟩
  have x1 : Xt [] H (upd H p (.lst [])) := .new hp
  refine .inl ⟨ns.map V.int, x1.lst0 hs, fun q hq => ?_⟩
  have npq : p ≠ q := ne_of_none (o := .lst []) upd_same hq
  have hqn : H q = none := x1.free0 hq
  obtain ⟨ms, hms, hml⟩ : ∃ ms : List Int, cutV (ns.map V.int) none (some 63) = ms.map V.int ∧ ms.length ≤ 63 := by
    refine ⟨ns.take 63, ?_, by simp; omega⟩
    unfold cutV
    have z : HT.sIx (ns.map V.int).length (ns.map V.int).length (some 63) = min 63 (ns.map V.int).length := HT.sIx_nat _ _ 63
    rw [z, HT.sIx_none, Nat.sub_zero, List.drop_zero, List.map_take]
    rcases Nat.le_total 63 (ns.map V.int).length with e | e
    · rw [Nat.min_eq_left e]
    · rw [Nat.min_eq_right e, List.take_length, List.take_of_length_le e]
  rw [hms]
  refine ⟨_, .of upd_same, ?_⟩
  refine ⟨fun i σ H1 => i ≤ ms.length ∧ ∃ (rest : List Int) (st : Int) (r1 r2 r3 : Option V), σ = [some (.ref a), some (.ref p), some (.int st), r1, r2, r3] ∧ Xt [p] H H1 ∧ H1 p = some (.lst (rest.map V.int)) ∧ rest.length ≤ i ∧ H1 q = some (.lst (ms.map V.int)), ?_, ?_, ?_, ?_⟩
  · exact ⟨by omega, [], 40503, none, none, none, rfl, (x1.trans (.new hq)).any, by rw [upd_ne npq, upd_same]; rfl, by simp, upd_same⟩
  · rintro i σ H1 hi ⟨_, rest, st, r1, r2, r3, rfl, x, e1, e2, e3⟩
    exact .of e3
  · rintro i v σ H1 H2 hi ⟨_, rest, st, r1, r2, r3, rfl, x, e1, e2, e3⟩ ⟨T, y1, y2, rfl, hT, rfl, z1, z2⟩
    simp only [List.length_map] at hi
    cases z1
    have z3 : (ms.map V.int)[i]? = some (.int ms[i]) := by simp [hi]
    obtain rfl : V.int ms[i] = y2 := Option.some.inj (z3.symm.trans z2)
    generalize hc : ms[i] = c
    refine ⟨[.int i, .int c], .of upd_same, rfl, ?_⟩
    have nTp : p ≠ T := ne_of_none e1 hT
    have nTq : q ≠ T := ne_of_none e3 hT
    have x2 : Xt [p] H (upd H1 T (.tup [.int i, .int c])) := x.trans (.new hT)
    have e1' : upd H1 T (.tup [.int i, .int c]) p = some (.lst (rest.map V.int)) := by rw [upd_ne nTp]; exact e1
    have e3' : upd H1 T (.tup [.int i, .int c]) q = some (.lst (ms.map V.int)) := by rw [upd_ne nTq]; exact e3
    have hln := big
    have step : ∀ (H3 : Hp) (rest2 : List Int), Xt [p] H H3 → H3 p = some (.lst (rest2.map V.int)) → rest2.length ≤ i + 1 → H3 q = some (.lst (ms.map V.int)) → ∀ size : Int,
        tAsg (tOp (aAdd K) (tOp aMod (tCB (on1 aInt) (tCons (tOp (aAdd K) (tOp (aAdd K) (tOp aMul (xVar 2) (tC (.int 48271))) (tOp aMul (tOp aMod (tCB (on1 aInt) (tCons (xVar 5) tNil)) (tC (.int 2147483629))) (tOp (aAdd K) (tOp aMul (tC (.int 2)) (xVar 3)) (tC (.int 69621))))) (tC (.int 11))) tNil)) (tC (.int 2147483629))) (tC (.int 1))) (gName 2)
          { nx := fun σ H1 => i + 1 ≤ ms.length ∧ ∃ (rest : List Int) (st : Int) (r1 r2 r3 : Option V), σ = [some (.ref a), some (.ref p), some (.int st), r1, r2, r3] ∧ Xt [p] H H1 ∧ H1 p = some (.lst (rest.map V.int)) ∧ rest.length ≤ i + 1 ∧ H1 q = some (.lst (ms.map V.int)), rt := Q }
          [some (.ref a), some (.ref p), some (.int st), some (.int i), some (.int c), some (.int size)] H3 := by
      intro H3 rest2 x3 e4 e5 e6 size
      refine ⟨.inr (by decide), by decide, .inl (by decide), ⟨.inr ?_, ?_⟩⟩
      · omega
      · refine ⟨by decide, by omega, rest2, _, _, _, _, rfl, x3, e4, e5, e6⟩
    refine ⟨.inr (by decide), ?_⟩
    refine ⟨⟨by decide, by decide, by decide⟩, ?_⟩
    refine br_of (fun e => ?_) fun e => ?_
    · refine ⟨⟨_, e1'⟩, _, e1', by simp only [List.length_map]; omega, ?_⟩
      refine step _ (rest ++ [if c < 0 then -c else c]) (x2.trans (.put (List.mem_singleton_self p) e1' (fun _ z => by cases z) (fun _ _ z => by cases z))) (by rw [upd_same, List.map_append]; rfl) (by simp; omega) (by rw [upd_ne (Ne.symm npq)]; exact e3') _
    · exact step _ rest x2 e1' (by omega) e3' _
  · rintro σ H1 ⟨_, rest, st, r1, r2, r3, rfl, x, e1, e2, e3⟩
    simp only [List.length_map] at e2
    refine ⟨Nat.le_trans (by simp) big, fun d hd => ?_⟩
    have hdn : H d = none := by
      cases qd : H d with
      | none => rfl
      | some o =>
        by_cases hdp : d = p
        · rw [hdp, hp] at qd
          cases qd
        · rw [x.keep d o (by simpa using hdp) qd] at hd
          cases hd
    refine hQ _ _ ?_ hdn ⟨p, rest, st, upd_same, by rw [upd_ne (ne_of_none e1 hd)]; exact e1, by omega⟩
    refine ⟨fun b o _ eb => ?_, fun b xs eb => ?_, fun b o u eb => ?_⟩
    · have n1 : b ≠ p := ne_of_none eb hp
      have n2 : b ≠ d := ne_of_none eb hdn
      rw [upd_ne n2]
      exact x.keep b o (by simpa using n1) eb
    · rw [upd_ne (ne_of_none eb hdn)]
      exact x.tups _ _ eb
    · rw [upd_ne (ne_of_none eb hdn)]
      exact x.frzs _ _ _ eb
def r_law_isG (K : PySem.W.Frag) (sp : Sp) : TS := (tSeq (xIfS (xTru K (tCB (on2T "tuple" (aIsi K "tuple")) (tCons (xVar 1) (tCons (tC (.ty "tuple")) tNil)))) (tSeq (xIfS (xOr (tNot (xTru K (tCB (on2T "tuple" (aIsi K "tuple")) (tCons (xVar 0) (tCons (tC (.ty "tuple")) tNil))))) (xB (tOp (aNot (aEq K)) (tCB (on1 (aLen K)) (tCons (xVar 0) tNil)) (tCB (on1 (aLen K)) (tCons (xVar 1) tNil))))) (tRet (tC (.bl false))) tNext) (tRet (tOp (aEq K) (xLc (kZipT K (xVar 0) (xVar 1)) (xgTup K 2 (xgCons (gName 2) (xgCons (gName 3) xgNil))) (tNot (xTru K (xCall sp (fun _ _ _ => False) (tCons (xVar 2) (tCons (xVar 3) tNil))))) (tC (.int 1)) [2, 3]) (tLst tNil)))) tNext) (tSeq (xIfS (xOr (xB (tOp aIs (xVar 1) (tC .non))) (xOr (xB (tOp aIs (xVar 1) (tC (.bl true)))) (xB (tOp aIs (xVar 1) (tC (.bl false)))))) (tRet (xIf (xB (tOp aIs (xVar 1) (tC .non))) (tOp aIs (xVar 0) (tC .non)) (xIf (xB (tOp aIs (xVar 1) (tC (.bl true)))) (tOp aIs (xVar 0) (tC (.bl true))) (tOp aIs (xVar 0) (tC (.bl false)))))) tNext) (tSeq (xIfS (xTru K (tCB (on2T "int" (aIsi K "int")) (tCons (xVar 1) (tCons (tC (.ty "int")) tNil)))) (tRet (xAndV K (tCB (on2T "int" (aIsi K "int")) (tCons (xVar 0) (tCons (tC (.ty "int")) tNil))) (xAndV K (xNotV K (tCB (on2T "bool" (aIsi K "bool")) (tCons (xVar 0) (tCons (tC (.ty "bool")) tNil)))) (tOp (aEq K) (xVar 0) (xVar 1))))) tNext) (tRet (xAndV K (tCB (on2T "str" (aIsi K "str")) (tCons (xVar 1) (tCons (tC (.ty "str")) tNil))) (xAndV K (tCB (on2T "str" (aIsi K "str")) (tCons (xVar 0) (tCons (tC (.ty "str")) tNil))) (tOp (aEq K) (xVar 0) (xVar 1))))))))
theorem dpAll_len {K : PySem.W.Frag} {H : Hp} : ∀ {vs : List V} {ds : List PyData}, DpAll K H vs ds → vs.length = ds.length
  | _, _, .nil => rfl
  | _, _, .cons _ q => congrArg Nat.succ (dpAll_len q)
theorem dpAll_get {K : PySem.W.Frag} {H : Hp} : ∀ {vs : List V} {ds : List PyData} {i : Nat} {v : V}, DpAll K H vs ds → vs[i]? = some v → ∃ d, ds[i]? = some d ∧ Dp K H v d
  | _, _, _, _, .nil, e => by simp at e
  | _, _, 0, _, .cons h _, e => by simp at e; subst e; exact ⟨_, rfl, h⟩
  | _, _, i + 1, _, .cons _ q, e => by
    obtain ⟨d, h1, h2⟩ := dpAll_get (i := i) q (by simpa using e)
    exact ⟨d, by simpa using h1, h2⟩
theorem dpAll_rep {K : PySem.W.Frag} {H : Hp} : ∀ m : Nat, DpAll K H (List.replicate m (.int 1)) (List.replicate m (.int 1))
  | 0 => .nil
  | m + 1 => .cons (.int 1) (dpAll_rep m)
theorem dep_get : ∀ {ds : List PyData} {i : Nat} {d : PyData}, ds[i]? = some d → d.depth ≤ PyData.depthAll ds
  | [], _, _, e => by simp at e
  | x :: xs, 0, _, e => by simp at e; subst e; simp only [PyData.depthAll]; omega
  | x :: xs, i + 1, d, e => by
    have := dep_get (ds := xs) (i := i) (d := d) (by simpa using e)
    simp only [PyData.depthAll]
    omega
theorem lawAll_len : ∀ {xs ys : List PyData}, xs.length ≠ ys.length → lawAll xs ys = false
  | [], [], h => absurd rfl h
  | [], _ :: _, _ => by rw [lawAll] <;> simp
  | _ :: _, [], _ => by rw [lawAll] <;> simp
  | x :: xs, y :: ys, h => by
    rw [lawAll, lawAll_len (xs := xs) (ys := ys) (by simpa using h), Bool.and_false]
theorem lawAll_ix : ∀ {xs ys : List PyData}, xs.length = ys.length → lawAll xs ys = decide (∀ j, j < xs.length → lawIs (xs.getD j .none) (ys.getD j .none) = true)
  | [], [], _ => by simp [lawAll]
  | [], _ :: _, h => by simp at h
  | _ :: _, [], h => by simp at h
  | x :: xs, y :: ys, h => by
    rw [lawAll, lawAll_ix (xs := xs) (ys := ys) (by simpa using h), Bool.eq_iff_iff]
    simp only [Bool.and_eq_true, decide_eq_true_eq]
    constructor
    · rintro ⟨h1, h2⟩ j hj
      cases j with
      | zero => exact h1
      | succ j => exact h2 j (by simpa using hj)
    · intro w
      exact ⟨w 0 (by simp), fun j hj => w (j + 1) (by simpa using hj)⟩
theorem p_law_is {K : PySem.W.Frag} {n : Nat} {sp : Sp} (hsp : ∀ vs H Q E, (0 < n ∧ sp_law_is_n (n - 1) K vs H Q E) → sp vs H Q E) (vs : List V) (H : Hp) (Q : VK) (E : XK) (h : sp_law_is_n n K vs H Q E) : r_law_isG K sp { nx := fun _ H' => Q .non H', rt := Q } (start ["told", "due", "one", "other"] vs) H := by
  obtain ⟨x, y, d, e, rfl, hx, hy, hn, hw, hQ⟩ := h
  cases hy with
  | non =>
    refine ⟨rfl, ?_⟩
    cases hx <;> exact hQ H (.refl _ _)
  | bl b =>
    refine ⟨rfl, ?_⟩
    cases b
    · cases hx with
      | bl c => cases c <;> exact hQ H (.refl _ _)
      | _ => exact hQ H (.refl _ _)
    · cases hx with
      | bl c => cases c <;> exact hQ H (.refl _ _)
      | _ => exact hQ H (.refl _ _)
  | int i =>
    refine ⟨rfl, ⟨rfl, ⟨rfl, ?_⟩⟩⟩
    cases hx with
    | int j => exact ⟨rfl, hQ H (.refl _ _)⟩
    | bl j => exact ⟨rfl, hQ H (.refl _ _)⟩
    | lst h h2 => exact .inl ⟨⟨_, h⟩, hQ H (.refl _ _)⟩
    | tup h h2 => exact .inr (.inl ⟨⟨_, h⟩, hQ H (.refl _ _)⟩)
    | _ => exact hQ H (.refl _ _)
  | str z =>
    refine ⟨rfl, ⟨rfl, ⟨rfl, ⟨rfl, ?_⟩⟩⟩⟩
    cases hx with
    | str j => exact hQ H (.refl _ _)
    | lst h h2 => exact .inl ⟨⟨_, h⟩, hQ H (.refl _ _)⟩
    | tup h h2 => exact .inr (.inl ⟨⟨_, h⟩, hQ H (.refl _ _)⟩)
    | _ => exact hQ H (.refl _ _)
  | lst h h2 =>
    refine ⟨rfl, .inl ⟨⟨_, h⟩, ⟨rfl, .inl ⟨⟨_, h⟩, ⟨rfl, .inl ⟨⟨_, h⟩, ?_⟩⟩⟩⟩⟩⟩
    cases hx <;> exact hQ H (.refl _ _)
  | tup h h2 =>
    refine ⟨rfl, .inr (.inl ⟨⟨_, h⟩, ?_⟩)⟩
    refine ⟨rfl, ?_⟩
    cases hx with
    | tup g g2 =>
      refine .inr (.inl ⟨⟨_, g⟩, ?_⟩)
      refine ⟨_, .inr g, _, .inr h, ?_⟩
      rename_i q ys es p xs ds
      have l1 := dpAll_len g2
      have l2 := dpAll_len h2
      refine br_of (fun z => ?_) fun z => ?_
      · have hne : xs.length ≠ ys.length := fun e => by
          rw [e] at z
          simp at z
        have e2 : lawIs (.tuple ds) (.tuple es) = false := by
          rw [lawIs]
          exact lawAll_len (by omega)
        rw [e2] at hQ
        exact hQ H (.refl _ _)
      · have heq : xs.length = ys.length := by
          simp at z
          omega
        refine ⟨xs, ys, g, h, fun D hD => ?_⟩
        refine ⟨fun i H1 => Xt [] H H1 ∧ ∃ m, m ≤ i ∧ H1 D = some (.lst (List.replicate m (.int 1))) ∧ (m = 0 ↔ ∀ j, j < i → lawIs (ds.getD j .none) (es.getD j .none) = true), ?_, ?_, ?_, ?_⟩
        · exact ⟨.new hD, 0, Nat.le_refl _, upd_same, by simp⟩
        · rintro i H1 hi ⟨x1, _⟩
          exact ⟨x1.tup g, x1.tup h⟩
        · rintro i v H1 H2 hi ⟨x1, m, hm, e1, e2⟩ ⟨T, v1, v2, rfl, hT, rfl, z1, z2⟩
          obtain ⟨d1, k1, k2⟩ := dpAll_get g2 z1
          obtain ⟨d2, k3, k4⟩ := dpAll_get h2 z2
          have x2 : Xt [] H (upd H1 T (.tup [v1, v2])) := x1.trans (.new hT)
          have nT : D ≠ T := ne_of_none e1 hT
          refine ⟨_, .of upd_same, rfl, rfl, ?_⟩
          refine hsp _ _ _ _ ⟨?_, v1, v2, d1, d2, rfl, dp_xt x2 k2, dp_xt x2 k4, ?_, ?_, fun H3 x3 => ?_⟩
          · simp only [PyData.depth] at hn
            omega
          · have := dep_get k3
            simp only [PyData.depth] at hn
            omega
          · have := wD_get k3
            simp only [wD] at hw
            omega
          · have e3 : H3 D = some (.lst (List.replicate m (.int 1))) := x3.get (by rw [upd_ne nT]; exact e1)
            have hg1 : ds.getD i .none = d1 := by simp [List.getD, k1]
            have hg2 : es.getD i .none = d2 := by simp [List.getD, k3]
            refine br_of (fun y => ?_) fun y => ?_
            · have hf : lawIs d1 d2 = false := by simpa using y
              have hb := big
              have hsz : m < sizeLine := by
                have hi' : i < min xs.length ys.length := hi
                have hk := wDs_len es
                simp only [wD] at hw
                omega
              refine ⟨_, e3, by simpa using hsz, (x2.trans x3).mut hD, m + 1, by omega, by rw [upd_same, ← List.replicate_succ'], ⟨fun w => by omega, fun w => ?_⟩⟩
              have := w i (by omega)
              rw [hg1, hg2, hf] at this
              cases this
            · have hf : lawIs d1 d2 = true := by simpa using y
              refine ⟨x2.trans x3, m, by omega, e3, e2.trans ⟨fun w j hj => ?_, fun w j hj => w j (by omega)⟩⟩
              by_cases hji : j = i
              · rw [hji, hg1, hg2, hf]
              · exact w j (by omega)
        · rintro H1 ⟨x1, m, hm, e1, e2⟩
          refine ⟨by decide, fun r hr => ?_⟩
          have nr : D ≠ r := ne_of_none e1 hr
          have hf : lawIs (.tuple ds) (.tuple es) = decide (m = 0) := by
            rw [lawIs, lawAll_ix (by omega), Bool.eq_iff_iff]
            simp only [decide_eq_true_eq]
            rw [e2]
            have : min xs.length ys.length = ds.length := by omega
            rw [this]
          rw [hf] at hQ
          refine aEq_dp (d := .list (List.replicate m (.int 1))) (e := .list []) (.lst (.of (by rw [upd_ne nr]; exact e1)) (dpAll_rep m)) (.lst (.of upd_same) .nil) ?_ (by decide) ?_
          · have := shaped_ints (List.replicate m 1)
            rwa [List.map_replicate] at this
          · have : PyData.eqv (.list (List.replicate m (.int 1))) (.list []) = decide (m = 0) := by
              rw [PyData.eqv, eqvAll_nil]
              cases m <;> simp [List.replicate_succ]
            rw [this]
            exact hQ _ (x1.trans (.new hr))
    | lst g g2 => exact .inl ⟨⟨_, g⟩, hQ H (.refl _ _)⟩
    | _ => exact hQ H (.refl _ _)
end Wh
set_option Elab.async false
set_option linter.all false
set_option maxRecDepth 100000
set_option maxHeartbeats 4000000
/-! WTxt: texts as lists of codes. -/
namespace Wh
open PySem PySem.Spec PyProof.Rows L2 He
/-- the text of these codes -/
def S (l : List Nat) : Str := ⟨l.toArray⟩
theorem S_len (l : List Nat) : (S l).length = l.length := by simp [S, Str.length]
theorem S_list (l : List Nat) : (S l).cps.toList = l := rfl
theorem S_app (l m : List Nat) : S l ++ S m = S (l ++ m) := by
  show (⟨l.toArray ++ m.toArray⟩ : Str) = ⟨(l ++ m).toArray⟩
  simp
theorem S_of (z : Str) : S z.cps.toList = z := by
  obtain ⟨⟨l⟩⟩ := z
  rfl
theorem S_inj {l m : List Nat} (h : S l = S m) : l = m := by
  have := congrArg (fun z : Str => z.cps.toList) h
  exact this
theorem S_beq (l m : List Nat) : (S l == S m) = decide (l = m) := by
  by_cases e : l = m
  · subst e
    rw [decide_eq_true rfl]
    simp
  · rw [decide_eq_false e]
    exact beq_eq_false_iff_ne.mpr fun h => e (S_inj h)
theorem S_one (c : Nat) : (⟨#[c]⟩ : Str) = S [c] := rfl
/-- a slice of codes from i on to j -/
theorem S_cut {l : List Nat} {i j : Nat} (hij : i ≤ j) (hj : j ≤ l.length) :
    (⟨(((S l).cps.toList.drop (HT.sIx (S l).length 0 (some (i : Int)))).take (HT.sIx (S l).length (S l).length (some (j : Int)) - HT.sIx (S l).length 0 (some (i : Int)))).toArray⟩ : Str) = S ((l.drop i).take (j - i)) := by
  rw [HT.sIx_nat, HT.sIx_nat, S_len, Nat.min_eq_left (Nat.le_trans hij hj), Nat.min_eq_left hj]
  rfl
theorem strOk_S {l : List Nat} (h : ∀ c ∈ l, c < 1114112) : PyData.strOk (S l) = true := by
  show (l.toArray.all fun c => decide (c < 1114112)) = true
  rw [List.all_toArray, List.all_eq_true]
  exact fun c hc => decide_eq_true (h c hc)
end Wh
set_option Elab.async false
set_option linter.all false
set_option maxRecDepth 100000
set_option maxHeartbeats 4000000
/-! WLam: a lambda handed to a def that calls it within a try. -/
namespace Wh
open PySem PySem.Spec PyProof.Rows L2 He LamX
theorem okC {P : Program} {w : World} {K : PySem.W.Frag} {mg : Str → Option Value} {base : Heap} {x qual : Str} {params : Arguments} {body : List Stmt} {scope : Scope} {dvs : List V} {kws : List (Str × V)} {at_ : Str × Option Str} {fd : FuncData} {CX : CXT} {N ps : List Str} {k : Nat} {sp : Sp}
    (F : FunD K x qual params body scope dvs kws (fAd K at_) fd) (S : FnScope N ps scope) (len : ∀ vs H Q E, sp vs H Q E → vs.length = ps.length)
    (hbody : ∀ (A : Around) (outer : List Env) (s : Shared) (H : Hp) (vs : List V) (Q : VK) (E : XK), Room k (A.deeper (envOfC qual scope s.heap.objs.size (fAd K at_) (.ref (codeOf K at_)))) → sp vs H Q E →
      ∃ t, PSs (cxOf CX P w K mg base N qual scope (fAd K at_) (.ref (codeOf K at_)) A outer s H E) body t ∧ t { nx := fun _ H' => Q .non H', rt := Q } (start N vs) H) : FnOk P w K mg base CX (k + 1) (fAd K at_) fd ps sp := by
  obtain ⟨oc, od, dV, kV, doc, pm, an, cdv, ct, osl, rfl, lk, hcd, _, _⟩ := F.ex
  obtain ⟨c, rfl⟩ := codeIn_ref hcd
  have e := codeOf_eq lk (c := c) rfl
  rw [e] at hbody
  exact fn_of lk hcd S len fun A outer s H vs Q E hr hsp => hbody A outer s H vs Q E hr hsp
structure LamF (P : Program) (w : World) (K : PySem.W.Frag) (mg : Str → Option Value) (base : Heap) (T : List (Addr × Str)) (x a : Str) (c Pt : Addr) (q : Str) (TT : (XK → Hp → VK → Prop) → Hp → VK → Prop) : Prop where
  ex : ∃ (g : Addr) (pg : Arguments) (bg : List Stmt) (sg : Scope) (dV kV doc pm cdv ct oc : Value) (an od : Option Addr) (osl : Array (Option Value)) (Ng : List Str), mg x = some (.ref g) ∧ PySem.W.keepIn K (.ref g) = true ∧
    K.lookup g = some ⟨oc, od, .func (PySem.W.fnOf x x pg bg sg dV kV doc pm an cdv ct), osl⟩ ∧ PySem.W.codeIn K cdv x = true ∧ L2.Binds K (PySem.W.fnOf x x pg bg sg dV kV doc pm an cdv ct) [a] [] ∧ FnScope Ng [a] sg ∧ Ng[0]? = some a ∧ Vis sg a ∧
    (∀ X : Cx, X.prog = P → X.w = w → X.K = K → X.mg = mg → X.base = base → GivesTo X Ng x sg g cdv bg a q TT)
  tab : TabB base mg c Pt
  mem : (Pt, q) ∈ T
  one : ∀ p ∈ T, p.1 = Pt → p.2 = q
theorem xe_lam {X : Cx} {T : List (Addr × Str)} {TT : (XK → Hp → VK → Prop) → Hp → VK → Prop} {x a : Str} {c Pt : Addr} {k : Nat} {params : Arguments} {body : Expr} {scope : Scope} {t : XK → TE} {p lpos pos : Pos} {q : Str}
    (F : LamF X.prog X.w X.K X.mg X.base T x a c Pt (q ++ "<lambda>") TT) (hq : X.env.qual = q) (hcode : X.env.code = .ref c) (hr : Room (k + 2) X.A) (L : LamS X.env.scope scope)
    (hbody : ∀ (A : Around) (outer : List Env) (s : Shared) (H : Hp) (E : XK) (f c' : Addr), Room k (A.deeper (lamEnv X scope s.heap.objs.size f c')) → PE (lamCx X A outer s H E scope f c') body (t E))
    (hg : Gl X x := by rfl) (hdef : defaultsOf params X.env = ([], []) := by rfl)
    (hbind : ∀ (q : Str) (cl : List (Str × Addr)) (pm cv ctv : Value), bindArgs (PySem.W.kla_fn "<lambda>" q params body scope cl pm cv ctv) ⟨[], []⟩ = pure [] := by intros; rfl)
    (hdb : (x == ("__debug__" : Str)) = false := by decide) (hd : (a == ("__debug__" : Str)) = false := by decide) (hcd : (a == ("__classdict__" : Str)) = false := by decide) :
    PE X (.Call (.Name x p) [.Lambda params body scope lpos] [] pos) (tLam T TT t) := by
  subst hq
  obtain ⟨g, pg, bg, sg, dV, kV, doc, pm, cdv, ct, oc, an, od, osl, Ng, h1, h2, h3, h4, h5, h6, h7, h8, h9⟩ := F.ex
  exact pe_lamcall hg h1 h2 h3 h4 h5 h6 h7 h8 (h9 X rfl rfl rfl rfl rfl) F.tab hcode F.mem F.one hr L hdef hbind hbody hdb hd hcd
end Wh
/-! K01: texts cut into groups: the mathematics, plain Lean (codes of signs as numbers). -/
namespace K01
def isL (c : Nat) : Bool := decide (97 ≤ c) && decide (c ≤ 122)
def isD (c : Nat) : Bool := decide (48 ≤ c) && decide (c ≤ 57)
def isB (c : Nat) : Bool := c == 32 || c == 10
def isE (c : Nat) : Bool := c == 61 || c == 33 || c == 60
def isS (c : Nat) : Bool := [40, 41, 91, 93, 123, 125, 44, 61, 60, 43, 45, 42, 47].contains c
/-- the length of the group that a text begins with, 0: none -/
def glen : List Nat → Nat
  | [] => 0
  | c :: r => if isL c then 1 + (r.takeWhile isL).length else if isD c then 1 + (r.takeWhile isD).length
    else if isE c && r.head? == some 61 then 2 else if isS c then 1 else 0
theorem glen_cons (c : Nat) (r : List Nat) : glen (c :: r) = if isL c then 1 + (r.takeWhile isL).length else if isD c then 1 + (r.takeWhile isD).length
    else if isE c && r.head? == some 61 then 2 else if isS c then 1 else 0 := rfl
/-- the groups up to a wrong sign, and whether one was met -/
def toks : Nat → List Nat → List (List Nat) × Bool
  | 0, _ => ([], false)
  | _ + 1, [] => ([], false)
  | n + 1, c :: r => if isB c then toks n r else if glen (c :: r) = 0 then ([], true)
    else ((c :: r).take (glen (c :: r)) :: (toks n ((c :: r).drop (glen (c :: r)))).1, (toks n ((c :: r).drop (glen (c :: r)))).2)
def T (l : List Nat) : List (List Nat) × Bool := toks l.length l
theorem toks_nil (n : Nat) : toks n [] = ([], false) := by cases n <;> rfl
theorem toks_fuel : ∀ (n m : Nat) (l : List Nat), l.length ≤ n → l.length ≤ m → toks n l = toks m l := by
  intro n
  induction n with
  | zero =>
    intro m l h _
    have e : l = [] := List.length_eq_zero_iff.mp (by omega)
    rw [e, toks_nil, toks_nil]
  | succ n ih =>
    intro m l h h2
    cases l with
    | nil => rw [toks_nil, toks_nil]
    | cons c r =>
      cases m with
      | zero => simp at h2
      | succ m =>
        have h1 : r.length ≤ n := by simpa using h
        have h3 : r.length ≤ m := by simpa using h2
        unfold toks
        by_cases hb : isB c = true
        · rw [if_pos hb, if_pos hb, ih m r h1 h3]
        · rw [if_neg hb, if_neg hb]
          by_cases hk : glen (c :: r) = 0
          · rw [if_pos hk, if_pos hk]
          · rw [if_neg hk, if_neg hk]
            have hd : ((c :: r).drop (glen (c :: r))).length ≤ r.length := by
              rw [List.length_drop, List.length_cons]; omega
            rw [ih m _ (by omega) (by omega)]
theorem T_nil : T [] = ([], false) := rfl
theorem T_blank {c : Nat} (r : List Nat) (hb : isB c = true) : T (c :: r) = T r := by
  show toks (r.length + 1) (c :: r) = _
  unfold toks
  rw [if_pos hb]; rfl
theorem T_wrong {c : Nat} {r : List Nat} (hb : isB c = false) (hk : glen (c :: r) = 0) : T (c :: r) = ([], true) := by
  show toks (r.length + 1) (c :: r) = _
  unfold toks
  rw [if_neg (by rw [hb]; decide), if_pos hk]
theorem T_group {c : Nat} {r : List Nat} {k : Nat} (hb : isB c = false) (hk : glen (c :: r) = k) (h0 : 0 < k) :
    T (c :: r) = ((c :: r).take k :: (T ((c :: r).drop k)).1, (T ((c :: r).drop k)).2) := by
  show toks (r.length + 1) (c :: r) = _
  unfold toks
  rw [if_neg (by rw [hb]; decide), hk, if_neg (by omega)]
  have hd : ((c :: r).drop k).length ≤ r.length := by
    rw [List.length_drop, List.length_cons]; omega
  have e : toks r.length ((c :: r).drop k) = T ((c :: r).drop k) := toks_fuel _ _ _ hd (Nat.le_refl _)
  rw [e]
/-- what the package answers -/
def grp (l : List Nat) : Except (Int × Int) (List (List Nat)) :=
  if 2000 < (T l).1.length then .error (2000, 2) else if (T l).2 then .error ((T l).1.length, 1) else .ok (T l).1
/-! ### signs -/
theorem L_notB {c : Nat} (h : isL c = true) : isB c = false := by
  unfold isL at h; unfold isB
  simp at h ⊢; omega
theorem D_notB {c : Nat} (h : isD c = true) : isB c = false := by
  unfold isD at h; unfold isB
  simp at h ⊢; omega
theorem E_notB {c : Nat} (h : isE c = true) : isB c = false := by
  unfold isE at h; unfold isB
  simp at h ⊢; omega
theorem S_notB {c : Nat} (h : isS c = true) : isB c = false := by
  unfold isS at h; unfold isB
  simp at h ⊢; omega
theorem L_notD {c : Nat} (h : isL c = true) : isD c = false := by
  unfold isL at h; unfold isD
  simp at h ⊢; omega
theorem E_notL {c : Nat} (h : isE c = true) : isL c = false := by
  unfold isE at h; unfold isL
  simp at h ⊢; omega
theorem E_notD {c : Nat} (h : isE c = true) : isD c = false := by
  unfold isE at h; unfold isD
  simp at h ⊢; omega
theorem S_notL {c : Nat} (h : isS c = true) : isL c = false := by
  unfold isS at h; unfold isL
  simp at h ⊢; omega
theorem S_notD {c : Nat} (h : isS c = true) : isD c = false := by
  unfold isS at h; unfold isD
  simp at h ⊢; omega
theorem B_notL {c : Nat} (h : isB c = true) : isL c = false := by
  unfold isB at h; unfold isL
  simp at h ⊢; omega
theorem B_notD {c : Nat} (h : isB c = true) : isD c = false := by
  unfold isB at h; unfold isD
  simp at h ⊢; omega
theorem B_not61 {c : Nat} (h : isB c = true) : c ≠ 61 := by
  unfold isB at h
  simp at h; omega
/-! ### a blank between two texts -/
theorem takeWhile_blank {p : Nat → Bool} {b : Nat} (hp : p b = false) (l2 : List Nat) : ∀ r : List Nat, (r ++ b :: l2).takeWhile p = r.takeWhile p
  | [] => by simp [hp]
  | c :: r => by
    rw [List.cons_append, List.takeWhile_cons, List.takeWhile_cons, takeWhile_blank hp l2 r]
theorem glen_blank {b : Nat} (hb : isB b = true) (l2 : List Nat) : ∀ l : List Nat, l ≠ [] → glen (l ++ b :: l2) = glen l
  | [], h => absurd rfl h
  | c :: r, _ => by
    have e : ((r ++ b :: l2).head? == some 61) = (r.head? == some 61) := by
      cases r with
      | nil => simp [B_not61 hb]
      | cons d r => rfl
    show glen (c :: (r ++ b :: l2)) = glen (c :: r)
    rw [glen_cons, glen_cons]
    rw [takeWhile_blank (B_notL hb), takeWhile_blank (B_notD hb), e]
theorem glen_le : ∀ l : List Nat, glen l ≤ l.length
  | [] => Nat.le_refl _
  | c :: r => by
    have h1 : ∀ p : Nat → Bool, (r.takeWhile p).length ≤ r.length := fun p => (List.takeWhile_sublist p).length_le
    have a := h1 isL
    have b := h1 isD
    show (if isL c then 1 + (r.takeWhile isL).length else if isD c then 1 + (r.takeWhile isD).length
      else if isE c && r.head? == some 61 then 2 else if isS c then 1 else 0) ≤ r.length + 1
    split
    · omega
    · split
      · omega
      · split
        · rename_i h
          cases r with
          | nil => simp at h
          | cons d r => simp
        · split <;> omega
theorem T_append {b : Nat} (hb : isB b = true) (l2 : List Nat) : ∀ (n : Nat) (l : List Nat) (g : List (List Nat)), l.length ≤ n → T l = (g, false) →
    T (l ++ b :: l2) = (g ++ (T l2).1, (T l2).2) := by
  intro n
  induction n with
  | zero =>
    intro l g h e
    have : l = [] := List.length_eq_zero_iff.mp (by omega)
    subst this
    rw [T_nil] at e
    cases e
    rw [List.nil_append, T_blank l2 hb, List.nil_append]
  | succ n ih =>
    intro l g h e
    cases l with
    | nil =>
      rw [T_nil] at e
      cases e
      rw [List.nil_append, T_blank l2 hb, List.nil_append]
    | cons c r =>
      have hr : r.length ≤ n := by simpa using h
      cases hc : isB c with
      | true =>
        rw [T_blank r hc] at e
        rw [List.cons_append, T_blank _ hc]
        exact ih r g hr e
      | false =>
        by_cases hk : glen (c :: r) = 0
        · rw [T_wrong hc hk] at e
          cases e
        · have h0 : 0 < glen (c :: r) := by omega
          rw [T_group hc rfl h0] at e
          obtain ⟨e1, e2⟩ := Prod.mk.inj e
          have hg : glen (c :: (r ++ b :: l2)) = glen (c :: r) := glen_blank hb l2 (c :: r) (List.cons_ne_nil _ _)
          have hle := glen_le (c :: r)
          have hd : ((c :: r).drop (glen (c :: r))).length ≤ n := by
            rw [List.length_drop, List.length_cons]; omega
          have i := ih _ (T ((c :: r).drop (glen (c :: r)))).1 hd (by rw [← e2])
          rw [List.cons_append, T_group hc hg h0]
          have d : (c :: (r ++ b :: l2)).drop (glen (c :: r)) = (c :: r).drop (glen (c :: r)) ++ b :: l2 := by
            rw [← List.cons_append, List.drop_append_of_le_length hle]
          have t : (c :: (r ++ b :: l2)).take (glen (c :: r)) = (c :: r).take (glen (c :: r)) := by
            rw [← List.cons_append, List.take_append_of_le_length hle]
          rw [d, t, i, ← e1]
          rfl
/-! ### texts without wrong signs -/
def good : List Nat → Bool
  | [] => true
  | c :: r => (isB c || isL c || isD c || isS c || (c == 33 && r.head? == some 61)) && good r
theorem good_append : ∀ (l m : List Nat), good l = true → good m = true → good (l ++ m) = true
  | [], _, _, h => h
  | c :: r, m, h, hm => by
    unfold good at h
    rw [Bool.and_eq_true] at h
    have i := good_append r m h.2 hm
    rw [List.cons_append]
    unfold good
    rw [Bool.and_eq_true]
    refine ⟨?_, i⟩
    have h1 := h.1
    cases r with
    | nil =>
      have e : (([] : List Nat).head? == some 61) = false := rfl
      rw [e, Bool.and_false, Bool.or_false] at h1
      rw [h1, Bool.true_or]
    | cons d r => exact h1
theorem good_tail {c : Nat} {r : List Nat} (h : good (c :: r) = true) : good r = true := by
  unfold good at h
  exact (Bool.and_eq_true_iff.mp h).2
theorem good_drop : ∀ (k : Nat) (l : List Nat), good l = true → good (l.drop k) = true
  | 0, _, h => h
  | _ + 1, [], h => h
  | k + 1, c :: r, h => good_drop k r (good_tail h)
theorem good_glen {c : Nat} {r : List Nat} (h : good (c :: r) = true) (hb : isB c = false) : 0 < glen (c :: r) := by
  unfold good at h
  have h1 := (Bool.and_eq_true_iff.mp h).1
  rw [glen_cons]
  split
  · omega
  · split
    · omega
    · split
      · omega
      · split
        · omega
        · rename_i n1 n2 n3 n4
          rw [hb] at h1
          simp only [Bool.not_eq_true] at n1 n2 n3 n4
          rw [n1, n2, n4] at h1
          have e : isE c = true := by
            simp at h1
            unfold isE
            simp [h1.1]
          rw [e, Bool.true_and] at n3
          rw [n3] at h1
          simp at h1
theorem good_T : ∀ (n : Nat) (l : List Nat), l.length ≤ n → good l = true → (T l).2 = false := by
  intro n
  induction n with
  | zero =>
    intro l h _
    have : l = [] := List.length_eq_zero_iff.mp (by omega)
    subst this
    rfl
  | succ n ih =>
    intro l h hg
    cases l with
    | nil => rfl
    | cons c r =>
      have hr : r.length ≤ n := by simpa using h
      cases hc : isB c with
      | true =>
        rw [T_blank r hc]
        exact ih r hr (good_tail hg)
      | false =>
        have h0 := good_glen hg hc
        rw [T_group hc rfl h0]
        refine ih _ ?_ (good_drop _ _ hg)
        rw [List.length_drop, List.length_cons]; omega
/-! ### the groups put together with blanks -/
def isTok (g : List Nat) : Prop := ∃ c r, g = c :: r ∧ isB c = false ∧ glen g = g.length
theorem takeWhile_all {p : Nat → Bool} : ∀ r : List Nat, (r.takeWhile p).takeWhile p = r.takeWhile p
  | [] => rfl
  | c :: r => by
    rw [List.takeWhile_cons]
    cases h : p c with
    | true => simp only [if_true]; rw [List.takeWhile_cons, h, takeWhile_all r]; rfl
    | false => rfl
theorem take_takeWhile {p : Nat → Bool} : ∀ r : List Nat, r.take (r.takeWhile p).length = r.takeWhile p
  | [] => rfl
  | c :: r => by
    rw [List.takeWhile_cons]
    cases h : p c with
    | true => simp only [if_true, List.length_cons, List.take_succ_cons]; rw [take_takeWhile r]
    | false => rfl
theorem glen_take {c : Nat} {r : List Nat} (h0 : 0 < glen (c :: r)) : glen ((c :: r).take (glen (c :: r))) = glen (c :: r) := by
  have hle := glen_le (c :: r)
  by_cases h1 : isL c = true
  · have e : glen (c :: r) = 1 + (r.takeWhile isL).length := by rw [glen_cons, if_pos h1]
    have e2 : (c :: r).take (glen (c :: r)) = c :: r.takeWhile isL := by
      rw [e, Nat.add_comm, List.take_succ_cons, take_takeWhile]
    rw [e2, e]
    rw [glen_cons, if_pos h1, takeWhile_all]
  · by_cases h2 : isD c = true
    · have e : glen (c :: r) = 1 + (r.takeWhile isD).length := by rw [glen_cons, if_neg h1, if_pos h2]
      have e2 : (c :: r).take (glen (c :: r)) = c :: r.takeWhile isD := by
        rw [e, Nat.add_comm, List.take_succ_cons, take_takeWhile]
      rw [e2, e]
      rw [glen_cons, if_neg h1, if_pos h2, takeWhile_all]
    · by_cases h3 : (isE c && r.head? == some 61) = true
      · have e : glen (c :: r) = 2 := by rw [glen_cons, if_neg h1, if_neg h2, if_pos h3]
        rw [e]
        cases r with
        | nil => simp at h3
        | cons d r =>
          show glen (c :: d :: []) = 2
          rw [glen_cons, if_neg h1, if_neg h2, if_pos (by simpa using h3)]
      · by_cases h4 : isS c = true
        · have e : glen (c :: r) = 1 := by rw [glen_cons, if_neg h1, if_neg h2, if_neg h3, if_pos h4]
          rw [e]
          show glen (c :: []) = 1
          rw [glen_cons, if_neg h1, if_neg h2, if_neg (by simp), if_pos h4]
        · have e : glen (c :: r) = 0 := by rw [glen_cons, if_neg h1, if_neg h2, if_neg h3, if_neg h4]
          omega
theorem T_toks : ∀ (n : Nat) (l : List Nat), l.length ≤ n → ∀ g ∈ (T l).1, isTok g := by
  intro n
  induction n with
  | zero =>
    intro l h g hg
    have : l = [] := List.length_eq_zero_iff.mp (by omega)
    subst this
    exact absurd hg (by simp [T_nil])
  | succ n ih =>
    intro l h g hg
    cases l with
    | nil => exact absurd hg (by simp [T_nil])
    | cons c r =>
      have hr : r.length ≤ n := by simpa using h
      cases hc : isB c with
      | true =>
        rw [T_blank r hc] at hg
        exact ih r hr g hg
      | false =>
        by_cases hk : glen (c :: r) = 0
        · rw [T_wrong hc hk] at hg
          exact absurd hg (by simp)
        · have h0 : 0 < glen (c :: r) := by omega
          rw [T_group hc rfl h0] at hg
          rcases List.mem_cons.mp hg with e | hg
          · obtain ⟨k, hkk⟩ : ∃ k, glen (c :: r) = k + 1 := ⟨glen (c :: r) - 1, by omega⟩
            refine ⟨c, r.take k, ?_, hc, ?_⟩
            · rw [e, hkk]; rfl
            · rw [e, glen_take h0, List.length_take]
              have := glen_le (c :: r)
              omega
          · refine ih _ ?_ g hg
            rw [List.length_drop, List.length_cons]; omega
/-- the groups and a blank behind each but the last -/
def glue : List (List Nat) → List Nat
  | [] => []
  | [g] => g
  | g :: h :: r => g ++ 32 :: glue (h :: r)
theorem T_tok {g : List Nat} (h : isTok g) : T g = ([g], false) := by
  obtain ⟨c, r, rfl, hb, hl⟩ := h
  rw [T_group hb hl (by simp)]
  simp [T_nil]
theorem T_tok_blank {g : List Nat} (h : isTok g) (l : List Nat) : T (g ++ 32 :: l) = (g :: (T l).1, (T l).2) :=
  T_append (b := 32) rfl l _ g [g] (Nat.le_refl _) (T_tok h)
theorem T_glue : ∀ gs : List (List Nat), (∀ g ∈ gs, isTok g) → T (glue gs) = (gs, false)
  | [], _ => rfl
  | [g], h => T_tok (h g (by simp))
  | g :: k :: r, h => by
    show T (g ++ 32 :: glue (k :: r)) = _
    rw [T_tok_blank (h g (by simp)), T_glue (k :: r) fun x hx => h x (List.mem_cons_of_mem _ hx)]
theorem T_len : ∀ (n : Nat) (l : List Nat), l.length ≤ n → ((T l).1.map List.length).sum ≤ l.length := by
  intro n
  induction n with
  | zero =>
    intro l h
    have : l = [] := List.length_eq_zero_iff.mp (by omega)
    subst this
    simp [T_nil]
  | succ n ih =>
    intro l h
    cases l with
    | nil => simp [T_nil]
    | cons c r =>
      have hr : r.length ≤ n := by simpa using h
      cases hc : isB c with
      | true =>
        rw [T_blank r hc, List.length_cons]
        have := ih r hr
        omega
      | false =>
        by_cases hk : glen (c :: r) = 0
        · rw [T_wrong hc hk]; simp
        · have h0 : 0 < glen (c :: r) := by omega
          rw [T_group hc rfl h0]
          have hle := glen_le (c :: r)
          have hd : ((c :: r).drop (glen (c :: r))).length ≤ n := by
            rw [List.length_drop, List.length_cons]; omega
          have i := ih _ hd
          rw [List.length_drop] at i
          simp only [List.map_cons, List.sum_cons, List.length_take]
          omega
theorem len_sum : ∀ gs : List (List Nat), (∀ g ∈ gs, isTok g) → gs.length ≤ (gs.map List.length).sum
  | [], _ => Nat.le_refl _
  | g :: r, h => by
    have i := len_sum r fun x hx => h x (List.mem_cons_of_mem _ hx)
    obtain ⟨c, q, e, _, _⟩ := h g (by simp)
    have : 1 ≤ g.length := by rw [e]; simp
    simp only [List.map_cons, List.sum_cons, List.length_cons]
    omega
theorem T_count (l : List Nat) : (T l).1.length ≤ l.length :=
  Nat.le_trans (len_sum _ (T_toks _ l (Nat.le_refl _))) (T_len _ l (Nat.le_refl _))
/-! ### the law's own cutting -/
def sortOf (c : Nat) : Nat := if isL c then 97 else if isD c then 49 else c
def lastAdd (f : List (List Nat)) (c : Nat) : List (List Nat) := f.set (f.length - 1) (f.getD (f.length - 1) [] ++ [c])
def step (s : List (List Nat) × Nat) (c : Nat) : List (List Nat) × Nat :=
  if s.1 ≠ [] ∧ sortOf c = s.2 ∧ (sortOf c = 97 ∨ sortOf c = 49) then (lastAdd s.1 c, sortOf c)
  else if isE s.2 = true ∧ c = 61 then (s.1.set (s.1.length - 1) [s.2, c], 50)
  else if isB c = true then (s.1, sortOf c) else (s.1 ++ [[c]], sortOf c)
def cut (l : List Nat) : List (List Nat) := (l.foldl step ([], 32)).1
def joins (s c : Nat) : Prop := (sortOf c = s ∧ (sortOf c = 97 ∨ sortOf c = 49)) ∨ (isE s = true ∧ c = 61)
theorem sort_L {c : Nat} (h : isL c = true) : sortOf c = 97 := by unfold sortOf; rw [if_pos h]
theorem sort_D {c : Nat} (h : isD c = true) : sortOf c = 49 := by
  unfold sortOf
  cases q : isL c with
  | true => rw [L_notD q] at h; cases h
  | false => rw [if_neg (by decide), if_pos h]
theorem sort_O {c : Nat} (h : isL c = false) (h2 : isD c = false) : sortOf c = c := by unfold sortOf; rw [h, h2]; rfl
theorem sort97 {c : Nat} (h : sortOf c = 97) : isL c = true := by
  cases q : isL c with
  | true => rfl
  | false =>
    cases q2 : isD c with
    | true => rw [sort_D q2] at h; cases h
    | false => rw [sort_O q q2] at h; rw [h] at q; cases q
theorem sort49 {c : Nat} (h : sortOf c = 49) : isD c = true := by
  cases q : isL c with
  | true => rw [sort_L q] at h; cases h
  | false =>
    cases q2 : isD c with
    | true => rfl
    | false => rw [sort_O q q2] at h; rw [h] at q2; cases q2
theorem step_new {f : List (List Nat)} {s c : Nat} (hj : ¬ joins s c) (hb : isB c = false) : step (f, s) c = (f ++ [[c]], sortOf c) := by
  unfold step
  rw [if_neg (fun h => hj (.inl ⟨h.2.1, h.2.2⟩)), if_neg (fun h => hj (.inr h)), if_neg (by rw [hb]; decide)]
theorem step_blank {f : List (List Nat)} {s c : Nat} (hb : isB c = true) : step (f, s) c = (f, c) := by
  have e : sortOf c = c := sort_O (B_notL hb) (B_notD hb)
  have n1 : ¬ (c = 97 ∨ c = 49) := by
    unfold isB at hb
    simp at hb; omega
  unfold step
  rw [e, if_neg (fun h => n1 h.2.2), if_neg (fun h => B_not61 hb h.2), if_pos hb]
theorem set_last {f : List (List Nat)} {g h : List Nat} : (f ++ [g]).set ((f ++ [g]).length - 1) h = f ++ [h] := by
  rw [List.length_append, List.length_cons, List.length_nil, Nat.zero_add, Nat.add_sub_cancel]
  rw [List.set_append_right _ _ (Nat.le_refl _), Nat.sub_self]
  rfl
theorem get_last {f : List (List Nat)} {g : List Nat} : (f ++ [g]).getD ((f ++ [g]).length - 1) [] = g := by
  rw [List.length_append, List.length_cons, List.length_nil, Nat.zero_add, Nat.add_sub_cancel]
  simp
theorem step_more {f : List (List Nat)} {g : List Nat} {s c : Nat} (h : sortOf c = s) (h2 : s = 97 ∨ s = 49) : step (f ++ [g], s) c = (f ++ [g ++ [c]], s) := by
  unfold step lastAdd
  rw [if_pos ⟨by simp, h, by rw [h]; exact h2⟩]
  simp only [set_last, get_last, h]
theorem step_eq {f : List (List Nat)} {s : Nat} (h : isE s = true) : step (f ++ [[s]], s) 61 = (f ++ [[s, 61]], 50) := by
  have n : ¬ (sortOf 61 = 97 ∨ sortOf 61 = 49) := by decide
  unfold step
  rw [if_neg (fun q => n q.2.2), if_pos ⟨h, rfl⟩]
  simp only [set_last]
/-- a row of letters, of figures -/
theorem run_more {p : Nat → Bool} {s : Nat} (hs : s = 97 ∨ s = 49) (hp : ∀ c, p c = true → sortOf c = s) (f : List (List Nat)) : ∀ (r g : List Nat),
    (r.takeWhile p).foldl step (f ++ [g], s) = (f ++ [g ++ r.takeWhile p], s)
  | [], g => by simp
  | c :: r, g => by
    rw [List.takeWhile_cons]
    cases h : p c with
    | true =>
      simp only [if_true, List.foldl_cons]
      rw [step_more (hp c h) hs, run_more hs hp f r (g ++ [c]), List.append_assoc]
      rfl
    | false => simp
theorem drop_takeWhile {p : Nat → Bool} : ∀ r : List Nat, ∀ c, (r.drop (r.takeWhile p).length).head? = some c → p c = false
  | [], c, h => by simp at h
  | d :: r, c, h => by
    rw [List.takeWhile_cons] at h
    cases q : p d with
    | true =>
      rw [q] at h
      simp only [if_true, List.length_cons, List.drop_succ_cons] at h
      exact drop_takeWhile r c h
    | false =>
      rw [q] at h
      simp at h
      rw [← h]; exact q
theorem cut_T : ∀ (n : Nat) (l : List Nat) (f : List (List Nat)) (s : Nat), l.length ≤ n → (∀ c, l.head? = some c → ¬ joins s c) → (T l).2 = false →
    (l.foldl step (f, s)).1 = f ++ (T l).1 := by
  intro n
  induction n with
  | zero =>
    intro l f s h _ _
    have : l = [] := List.length_eq_zero_iff.mp (by omega)
    subst this
    simp [T_nil]
  | succ n ih =>
    intro l f s h hj ht
    cases l with
    | nil => simp [T_nil]
    | cons c r =>
      have hr : r.length ≤ n := by simpa using h
      have hjc := hj c rfl
      cases hc : isB c with
      | true =>
        rw [T_blank r hc] at ht ⊢
        rw [List.foldl_cons, step_blank hc]
        refine ih r f c hr (fun d _ q => ?_) ht
        have : c = 32 ∨ c = 10 := by unfold isB at hc; simpa using hc
        rcases q with ⟨q1, q2⟩ | ⟨q1, _⟩
        · rw [q1] at q2; omega
        · unfold isE at q1; simp at q1; omega
      | false =>
        by_cases hk : glen (c :: r) = 0
        · rw [T_wrong hc hk] at ht
          cases ht
        · have h0 : 0 < glen (c :: r) := by omega
          have hg := T_group hc (r := r) rfl h0
          rw [hg] at ht ⊢
          have hd : ((c :: r).drop (glen (c :: r))).length ≤ n := by
            rw [List.length_drop, List.length_cons]; omega
          have whole : (c :: r).foldl step (f, s) = ((c :: r).drop (glen (c :: r))).foldl step (((c :: r).take (glen (c :: r))).foldl step (f, s)) := by
            rw [← List.foldl_append, List.take_append_drop]
          have fin : ∀ s', ((c :: r).take (glen (c :: r))).foldl step (f, s) = (f ++ [(c :: r).take (glen (c :: r))], s') → (∀ d, ((c :: r).drop (glen (c :: r))).head? = some d → ¬ joins s' d) →
              ((c :: r).foldl step (f, s)).1 = f ++ ((c :: r).take (glen (c :: r)) :: (T ((c :: r).drop (glen (c :: r)))).1) := fun s' e q => by
            rw [whole, e, ih _ _ s' hd q ht, List.append_assoc]
            rfl
          have e0 := step_new (f := f) hjc hc
          by_cases h1 : isL c = true
          · have e : glen (c :: r) = 1 + (r.takeWhile isL).length := by rw [glen_cons, if_pos h1]
            have e2 : (c :: r).take (glen (c :: r)) = c :: r.takeWhile isL := by
              rw [e, Nat.add_comm, List.take_succ_cons, take_takeWhile]
            have e3 : (c :: r).drop (glen (c :: r)) = r.drop (r.takeWhile isL).length := by
              rw [e, Nat.add_comm, List.drop_succ_cons]
            refine fin 97 ?_ fun d q z => ?_
            · rw [e2, List.foldl_cons, e0, sort_L h1, run_more (.inl rfl) (fun c h => sort_L h) f r [c]]
              rfl
            · rw [e3] at q
              have q' := drop_takeWhile r d q
              rcases z with ⟨z, _⟩ | ⟨z, _⟩
              · rw [sort97 z] at q'; cases q'
              · exact absurd z (by decide)
          · by_cases h2 : isD c = true
            · have e : glen (c :: r) = 1 + (r.takeWhile isD).length := by rw [glen_cons, if_neg h1, if_pos h2]
              have e2 : (c :: r).take (glen (c :: r)) = c :: r.takeWhile isD := by
                rw [e, Nat.add_comm, List.take_succ_cons, take_takeWhile]
              have e3 : (c :: r).drop (glen (c :: r)) = r.drop (r.takeWhile isD).length := by
                rw [e, Nat.add_comm, List.drop_succ_cons]
              refine fin 49 ?_ fun d q z => ?_
              · rw [e2, List.foldl_cons, e0, sort_D h2, run_more (.inr rfl) (fun c h => sort_D h) f r [c]]
                rfl
              · rw [e3] at q
                have q' := drop_takeWhile r d q
                rcases z with ⟨z, _⟩ | ⟨z, _⟩
                · rw [sort49 z] at q'; cases q'
                · exact absurd z (by decide)
            · have eo : sortOf c = c := sort_O (by simpa using h1) (by simpa using h2)
              by_cases h3 : (isE c && r.head? == some 61) = true
              · have e : glen (c :: r) = 2 := by rw [glen_cons, if_neg h1, if_neg h2, if_pos h3]
                rw [Bool.and_eq_true] at h3
                cases r with
                | nil => simp at h3
                | cons d r =>
                  have ed : d = 61 := by simpa using h3.2
                  subst ed
                  rw [e] at fin ⊢
                  refine fin 50 ?_ fun d q z => ?_
                  · show (List.foldl step (f, s) [c, 61]) = _
                    rw [List.foldl_cons, e0, eo, List.foldl_cons, step_eq h3.1]
                    rfl
                  · rcases z with ⟨z, z2⟩ | ⟨z, _⟩
                    · rw [z] at z2; omega
                    · exact absurd z (by decide)
              · by_cases h4 : isS c = true
                · have e : glen (c :: r) = 1 := by rw [glen_cons, if_neg h1, if_neg h2, if_neg h3, if_pos h4]
                  rw [e] at fin ⊢
                  refine fin c ?_ fun d q z => ?_
                  · show (List.foldl step (f, s) [c]) = _
                    rw [List.foldl_cons, e0, eo]
                    rfl
                  · have q' : r.head? = some d := q
                    rcases z with ⟨z, z2⟩ | ⟨z, z2⟩
                    · rw [z] at z2
                      rcases z2 with z2 | z2 <;> (rw [z2] at h4; exact absurd h4 (by decide))
                    · rw [z, q', z2] at h3
                      exact h3 rfl
                · have e : glen (c :: r) = 0 := by rw [glen_cons, if_neg h1, if_neg h2, if_neg h3, if_neg h4]
                  omega
theorem cut_eq {l : List Nat} (h : (T l).2 = false) : cut l = (T l).1 := by
  have e := cut_T _ l [] 32 (Nat.le_refl _) (fun c _ q => by
    rcases q with ⟨q1, q2⟩ | ⟨q1, _⟩
    · rw [q1] at q2; omega
    · exact absurd q1 (by decide)) h
  rw [List.nil_append] at e
  exact e
/-! ### answers -/
theorem grp_ok {l : List Nat} {g : List (List Nat)} (h : T l = (g, false)) (hl : g.length ≤ 2000) : grp l = .ok g := by
  unfold grp
  rw [h]
  rw [if_neg (by show ¬ 2000 < g.length; omega), if_neg (by show ¬ false = true; decide)]
theorem grp_wrong {l : List Nat} {g : List (List Nat)} (h : T l = (g, true)) (hl : g.length ≤ 2000) : grp l = .error (g.length, 1) := by
  unfold grp
  rw [h]
  rw [if_neg (by show ¬ 2000 < g.length; omega), if_pos rfl]
theorem grp_many {l : List Nat} {g : List (List Nat)} {b : Bool} (h : T l = (g, b)) (hl : 2000 < g.length) : grp l = .error (2000, 2) := by
  unfold grp
  rw [h, if_pos hl]
/-- many times the same -/
theorem T_rep_a : ∀ n : Nat, T ((List.replicate n [97, 32]).flatten) = (List.replicate n [97], false)
  | 0 => rfl
  | n + 1 => by
    rw [List.replicate_succ, List.flatten_cons, List.replicate_succ]
    show T ([97] ++ 32 :: (List.replicate n [97, 32]).flatten) = _
    rw [T_tok_blank ⟨97, [], rfl, rfl, rfl⟩, T_rep_a n]
theorem T_rep_single {c : Nat} (hc : isS c = true) (h61 : isE c = false) {l : List Nat} {g : List (List Nat)} {b : Bool} (h : T l = (g, b)) : ∀ n : Nat, T (List.replicate n c ++ l) = (List.replicate n [c] ++ g, b)
  | 0 => by simpa using h
  | n + 1 => by
    rw [List.replicate_succ, List.cons_append]
    have hg : glen (c :: (List.replicate n c ++ l)) = 1 := by
      rw [glen_cons, S_notL hc, S_notD hc, h61, hc]
      rfl
    rw [T_group (S_notB hc) hg (by omega)]
    have e : (c :: (List.replicate n c ++ l)).drop 1 = List.replicate n c ++ l := rfl
    rw [e, T_rep_single hc h61 h n]
    rfl
theorem takeWhile_rep {p : Nat → Bool} {c : Nat} (h : p c = true) : ∀ n : Nat, (List.replicate n c).takeWhile p = List.replicate n c
  | 0 => rfl
  | n + 1 => by
    rw [List.replicate_succ, List.takeWhile_cons, if_pos h, takeWhile_rep h n]
theorem T_rep_word (n : Nat) : T (List.replicate (n + 1) 97) = ([List.replicate (n + 1) 97], false) := by
  have hg : glen (97 :: List.replicate n 97) = n + 1 := by
    rw [glen_cons, if_pos (by decide), takeWhile_rep (by decide), List.length_replicate, Nat.add_comm]
  rw [List.replicate_succ, T_group rfl hg (by omega), ← List.replicate_succ, List.take_of_length_le (by simp), List.drop_eq_nil_of_le (by simp), T_nil]
theorem T_rep_blank : ∀ n : Nat, T (List.replicate n 32) = ([], false)
  | 0 => rfl
  | n + 1 => by rw [List.replicate_succ, T_blank _ rfl, T_rep_blank n]
end K01
set_option Elab.async false
set_option linter.all false
set_option maxRecDepth 100000
set_option maxHeartbeats 0
namespace K01
open PySem PySem.Spec PyProof.Rows L2 He Wh
/-! the text -/
def top (i : Nat) : Stmt := PySem.Challenge.pw_wholied_k01_whole_texts_cut_into_groups.main.body.getD i (.Pass ⟨0, 0, 0, 0⟩)
abbrev s_end_of : Stmt := top 10
abbrev s_group_end : Stmt := top 11
abbrev s_groups : Stmt := top 12
abbrev s_law_box : Stmt := top 14
abbrev s_law_take : Stmt := top 15
abbrev s_law_pick : Stmt := top 16
abbrev s_law_is : Stmt := top 17
abbrev s_law_cut : Stmt := top 18
abbrev s_law_error : Stmt := top 19
abbrev s_law_piece : Stmt := top 20
abbrev s_law : Stmt := top 21
abbrev s_InvalidText : Stmt := inClass (top 2) 0
/-! what the head tells -/
def d_end_of : DefD := ⟨("end_of", none), "end_of", "end_of", defArgs s_end_of, defBody s_end_of, defScope s_end_of, [], []⟩
def d_group_end : DefD := ⟨("group_end", none), "group_end", "group_end", defArgs s_group_end, defBody s_group_end, defScope s_group_end, [], []⟩
def d_groups : DefD := ⟨("groups", none), "groups", "groups", defArgs s_groups, defBody s_groups, defScope s_groups, [], []⟩
def d_law_box : DefD := ⟨("_law_box", none), "_law_box", "_law_box", defArgs s_law_box, defBody s_law_box, defScope s_law_box, [], []⟩
def d_law_take : DefD := ⟨("_law_take", none), "_law_take", "_law_take", defArgs s_law_take, defBody s_law_take, defScope s_law_take, [], []⟩
def d_law_pick : DefD := ⟨("_law_pick", none), "_law_pick", "_law_pick", defArgs s_law_pick, defBody s_law_pick, defScope s_law_pick, [], []⟩
def d_law_is : DefD := ⟨("_law_is", none), "_law_is", "_law_is", defArgs s_law_is, defBody s_law_is, defScope s_law_is, [], []⟩
def d_law_cut : DefD := ⟨("_law_cut", none), "_law_cut", "_law_cut", defArgs s_law_cut, defBody s_law_cut, defScope s_law_cut, [], []⟩
def d_law_error : DefD := ⟨("_law_error", none), "_law_error", "_law_error", defArgs s_law_error, defBody s_law_error, defScope s_law_error, [], []⟩
def d_law_piece : DefD := ⟨("_law_piece", none), "_law_piece", "_law_piece", defArgs s_law_piece, defBody s_law_piece, defScope s_law_piece, [], []⟩
def d_law : DefD := ⟨("law", none), "law", "law", defArgs s_law, defBody s_law, defScope s_law, [], []⟩
def fn : List DefD := [d_end_of, d_group_end, d_groups, d_law_box, d_law_take, d_law_pick, d_law_is, d_law_cut, d_law_error, d_law_piece, d_law]
def e_InvalidText : ErrD := ⟨"InvalidText", ["at", "why"], "InvalidText.__init__", defArgs s_InvalidText, defBody s_InvalidText, defScope s_InvalidText⟩
def es : List ErrD := [e_InvalidText]
def fa : List Fa := [.glo "end_of", .glo "group_end", .glo "groups", .glo "_law_box", .glo "_law_take", .glo "_law_pick", .glo "_law_is", .glo "_law_cut", .glo "_law_error", .glo "_law_piece", .glo "law", .glo "InvalidText", .str "LETTERS" "abcdefghijklmnopqrstuvwxyz", .str "FIGURES" "0123456789", .int "MOST_SIGNS" 8000, .int "MOST_GROUPS" 2000, .str "SINGLE" "()[]{},=<+-*/", .glo "DOUBLE", .free "Exception", .free "abs", .free "bool", .free "enumerate", .free "int", .free "isinstance", .free "len", .free "range", .free "str", .free "super", .free "tuple", .free "zip"]
/-- an error's fields are read by the object's own rule -/
def Xf (K : PySem.W.Frag) (x : Str) : Bool := xfB K (ga K x)
def exs : List (PySem.W.Frag → Bool) := [fun K => decide (PySem.W.exmOne K (.ref (ga K "InvalidText")) (.ref (ga K "InvalidText")) = some true),
  fun K => Xf K "InvalidText",
  fun K => tupB K "DOUBLE" [.str "==", .str "!=", .str "<="]]
def ex (K : PySem.W.Frag) : Bool := exs.all fun f => f K
def tf : List Defn := [("law", none)]
abbrev R : PySem.W.OpenRow := PySem.W.OpenLaw.row PySem.Challenge.rw_wholied_k01_whole_texts_cut_into_groups
def file : Str := "/claim/cut.py"
abbrev hk : PySem.W.Hook := hookW 6 fa fn es tf ex file
def ob (s : PySem.W.SharedT) : AlW := obsW 6 fa fn es tf ex file (HandSHeadRun.getT s)
theorem ob_eq (s : PySem.W.SharedT) : ob s = hk.obs s.abs := obsW_eq (HandSHeadRun.getT_eq s)
def loose0 : List PySem.Str := ["LiarError", "InvalidText", "LETTERS", "FIGURES", "MOST_SIGNS", "MOST_GROUPS", "SINGLE", "DOUBLE", "end_of", "group_end", "groups", "_law_box", "_law_take", "_law_pick", "_law_is", "_law_cut", "_law_error", "_law_piece"]
def loose : List PySem.Str := loose0
abbrev qv : Program := PySem.W.view R.prog [21]
theorem it_InvalidText : IniT ["at", "why"] (defArgs s_InvalidText) (defBody s_InvalidText) (defScope s_InvalidText) := ⟨rfl, rfl, rfl, by decide +kernel, rfl, by decide +kernel, by decide +kernel, by decide +kernel, rfl, rfl, ⟨_, rfl, rfl⟩, ⟨_, _, _, _, _, _, _, _, _, rfl, .cons (.cons (.nil)), fun env => ⟨_, rfl⟩, fun env => rfl, fun env f q1 q2 q3 q4 h => rfl⟩⟩
theorem bd_InvalidText (s : Shared) (x : Addr) (us : List Value) (fd : FuncData) (hl : us.length = 2) (h1 : fd.params = defArgs s_InvalidText) (h2 : fd.scope = defScope s_InvalidText) (h3 : fd.defaults = .none) (h4 : fd.kwdefaults = .none) : BindsTo s fd ⟨.ref x :: us, []⟩ (("self", .ref x) :: (["at", "why"] : List Str).zip us) := by
  obtain ⟨n1, n2, n3, n4, n5, n6, n7, n8, n9, n10, n11, n12, n13, n14, n15⟩ := fd
  obtain rfl : n3 = defArgs s_InvalidText := h1
  obtain rfl : n5 = defScope s_InvalidText := h2
  obtain rfl : n8 = .none := h3
  obtain rfl : n9 = .none := h4
  match us, hl with
  | [_, _], _ => exact .of_eq rfl
/-- the names that all defs read -/
structure Gs (P : Program) (K : PySem.W.Frag) (mg : Str → Option Value) : Prop where
  g_LETTERS : ∃ t, mg "LETTERS" = some (.str "abcdefghijklmnopqrstuvwxyz" t)
  g_FIGURES : ∃ t, mg "FIGURES" = some (.str "0123456789" t)
  g_MOST_SIGNS : ∃ t, mg "MOST_SIGNS" = some (.int 8000 t)
  g_MOST_GROUPS : ∃ t, mg "MOST_GROUPS" = some (.int 2000 t)
  g_SINGLE : ∃ t, mg "SINGLE" = some (.str "()[]{},=<+-*/" t)
  g_DOUBLE : mg "DOUBLE" = some (.ref (ga K "DOUBLE"))
  b_abs : mg "abs" = none
  b_bool : mg "bool" = none
  b_enumerate : mg "enumerate" = none
  b_int : mg "int" = none
  b_isinstance : mg "isinstance" = none
  b_len : mg "len" = none
  b_range : mg "range" = none
  b_str : mg "str" = none
  b_super : mg "super" = none
  b_tuple : mg "tuple" = none
  b_zip : mg "zip" = none
  e_InvalidText : ErK P K mg "InvalidText" ["at", "why"]
  x_InvalidText_InvalidText : PySem.W.exmOne K (.ref (ga K "InvalidText")) (.ref (ga K "InvalidText")) = some true
  f_InvalidText : XfC K (ga K "InvalidText")
  t_DOUBLE : tupB K "DOUBLE" [.str "==", .str "!=", .str "<="] = true
theorem gs_of {K : PySem.W.Frag} {h hp : Heap} {mg : Str → Option Value} (X : K.In h) (H : h.Ns mainGlobals mg) (c : SaysW fa fn es tf ex file hp K) : Gs R.prog K mg :=
  ⟨str_ok X H (c.d.fact 12 rfl),
   str_ok X H (c.d.fact 13 rfl),
   int_ok X H (c.d.fact 14 rfl),
   int_ok X H (c.d.fact 15 rfl),
   str_ok X H (c.d.fact 16 rfl),
   glo_ok X H (c.d.fact 17 (f := .glo "DOUBLE") rfl),
   free_ok X H (c.d.fact 19 (f := .free "abs") rfl),
   free_ok X H (c.d.fact 20 (f := .free "bool") rfl),
   free_ok X H (c.d.fact 21 (f := .free "enumerate") rfl),
   free_ok X H (c.d.fact 22 (f := .free "int") rfl),
   free_ok X H (c.d.fact 23 (f := .free "isinstance") rfl),
   free_ok X H (c.d.fact 24 (f := .free "len") rfl),
   free_ok X H (c.d.fact 25 (f := .free "range") rfl),
   free_ok X H (c.d.fact 26 (f := .free "str") rfl),
   free_ok X H (c.d.fact 27 (f := .free "super") rfl),
   free_ok X H (c.d.fact 28 (f := .free "tuple") rfl),
   free_ok X H (c.d.fact 29 (f := .free "zip") rfl),
   ⟨_, _, _, _, _, _, (c.err e_InvalidText (by simp [es])).1, (c.err e_InvalidText (by simp [es])).2, it_InvalidText, by decide, by decide, bd_InvalidText, free_ok X H (c.d.fact 27 (f := .free "super") rfl), by decide +kernel, by decide +kernel, glo_ok X H (c.d.fact 11 (f := .glo "InvalidText") rfl)⟩,
   of_decide_eq_true (all_ix c.more 0 rfl),
   xfB_ok (all_ix c.more 1 rfl),
   all_ix c.more 2 rfl⟩
set_option maxRecDepth 100000 in
theorem run (w : World) : HandSHeadRun.RunEq R qv hk ob 3000 loose w := by
  intro os
  kernel_rfl
end K01
set_option Elab.async false
set_option linter.all false
set_option maxRecDepth 100000
set_option maxHeartbeats 4000000
/-! K01Sp: what each def promises. -/
namespace K01
open PySem PySem.Spec PyProof.Rows L2 He Wh
def sp_end_of (_K : PySem.W.Frag) : Sp := fun vs H Q _ => ∃ (l : List Nat) (n : Nat) (w : Str), vs = [.str (S l), .int n, .str w] ∧ n ≤ l.length ∧ l.length ≤ 8000 ∧ Q (.int ((n + ((l.drop n).takeWhile fun c => decide (c ∈ w.cps.toList)).length : Nat) : Int)) H
def sp_group_end (_K : PySem.W.Frag) : Sp := fun vs H Q _ => ∃ (l : List Nat) (n : Nat), vs = [.str (S l), .int n] ∧ n < l.length ∧ l.length ≤ 8000 ∧ ∀ H', Xt [] H H' → Q (.int ((n + glen (l.drop n) : Nat) : Int)) H'
/-- what groups answers -/
def Ans (K : PySem.W.Frag) (H : Hp) (Q : VK) (E : XK) : Except (Int × Int) (List (List Nat)) → Prop
  | .ok g => ∀ p H', Xt [] H H' → H p = none → H' p = some (.tup (g.map fun l => .str (S l))) → Q (.ref p) H'
  | .error (a, b) => ∀ d H', Xt [] H H' → H' d = some (.xd [("why", .int b), ("at", .int a)]) → E (.ref (ga K "InvalidText")) (some d) H'
/-- what is asked: a text that is not too long, or something else -/
inductive Asked (K : PySem.W.Frag) (H : Hp) : V → Except (Int × Int) (List (List Nat)) → Prop
  | text {l : List Nat} : l.length ≤ 8000 → Asked K H (.str (S l)) (grp l)
  | long {l : List Nat} : 8000 < l.length → l.length ≤ 10000000 → Asked K H (.str (S l)) (.error (-1, 0))
  | non : Asked K H .non (.error (-1, 0))
  | int (i : Int) : Asked K H (.int i) (.error (-1, 0))
  | bl (i : Bool) : Asked K H (.bl i) (.error (-1, 0))
  | lst {a : Addr} {xs : List V} : SqL K H a xs → Asked K H (.ref a) (.error (-1, 0))
  | tup {a : Addr} {xs : List V} : SqT K H a xs → Asked K H (.ref a) (.error (-1, 0))
def sp_groups (K : PySem.W.Frag) : Sp := fun vs H Q E => ∃ v r, vs = [v] ∧ Asked K H v r ∧ Ans K H Q E r
def sp_law_cut (_K : PySem.W.Frag) : Sp := fun vs H Q _ => ∃ l : List Nat, vs = [.str (S l)] ∧ l.length ≤ 8000 ∧ (∀ c ∈ l, c < 256) ∧ ∀ p H', Xt [] H H' → H p = none → H' p = some (.lst ((cut l).map fun g => .str (S g))) → Q (.ref p) H'
def sp_law_piece (_K : PySem.W.Frag) : Sp := fun vs H Q _ => ∃ b : Addr, vs = [.ref b] ∧ Box H b ∧ ∀ l H', good l = true → l.length ≤ 5 → Xt [b] H H' → Box H' b → Q (.str (S l)) H'
end K01
set_option Elab.async false
set_option linter.all false
set_option maxRecDepth 100000
set_option maxHeartbeats 4000000
namespace K01
open PySem PySem.Spec PyProof.Rows L2 He Wh
/-! ### end_of -/
def N_end_of : List Str := ["text", "at", "signs", "end"]
theorem sc_end_of : FnScope N_end_of ["text", "at", "signs"] (defScope s_end_of) := ⟨rfl, rfl, rfl, by decide +kernel, rfl, by decide +kernel, by decide +kernel⟩
def r_end_of (K : PySem.W.Frag) (E : XK) : TS := (tSeq (tAsg (xVar 1) (gName 3)) (tSeq (xWhile (xAnd (xB (tOp (aCmp fun i j => decide (i < j)) (xVar 3) (tCB (on1 (aLen K)) (tCons (xVar 0) tNil)))) (xB (tOp (aIn K) (tOp (aIx K) (xVar 0) (xVar 3)) (xVar 2)))) (xAug 3 (tC (.int 1)) aIAdd)) (tRet (xVar 3))))
theorem w_end_of {P : Program} {w : World} {K : PySem.W.Frag} {mg : Str → Option Value} {base : Heap} (G : Gs P K mg) {f : Addr} {cd : Value} {A : Around} {outer : List Env} {s : Shared} {H : Hp} {E : XK} (hr : Room 0 (A.deeper (envOfC "end_of" (defScope s_end_of) s.heap.objs.size f cd))) :
    PSs (cxOf (L2.CX P w) P w K mg base N_end_of "end_of" (defScope s_end_of) f cd A outer s H E) (defBody s_end_of) (r_end_of K E) :=
  (pss_cons (xs_set (i := 3) sc_end_of.nd (xv 1)) (pss_cons (xs_while (passes_of rfl) (xw_and (xt_cmp xo_lt (xv 3) (xe_cb xc_len G.b_len bb_len (pa_cons (xv 0) pa_nil))) (pw_and1 (xt_cmp (xo_in hr.units) (pe_ix xi_ix (xv 0) (xv 3) (by intro _ _; rfl)) (xv 2)))).pt (pss_one (xs_aug (i := 3) sc_end_of.nd xi_add pe_int))) (pss_one (ps_ret (xv 3)))))
/-! ### group_end -/
def N_group_end : List Str := ["text", "at", "signs"]
theorem sc_group_end : FnScope N_group_end ["text", "at"] (defScope s_group_end) := ⟨rfl, rfl, rfl, by decide +kernel, rfl, by decide +kernel, by decide +kernel⟩
def r_group_end (K : PySem.W.Frag) (E : XK) : TS := (tSeq (xFor (kAny K (tTup (tCons (tC (.str "abcdefghijklmnopqrstuvwxyz")) (tCons (tC (.str "0123456789")) tNil)))) (gName 2) (xIfS (xB (tOp (aIn K) (tOp (aIx K) (xVar 0) (xVar 1)) (xVar 2))) (tRet (xCall (sp_end_of K) E (tCons (xVar 0) (tCons (xVar 1) (tCons (xVar 2) tNil))))) tNext)) (tSeq (xIfS (xB (tOp (aIn K) (tSl (aSl K) (xVar 0) (xPart (xVar 1)) (xPart (tOp (aAdd K) (xVar 1) (tC (.int 2))))) (tC (.ref (ga K "DOUBLE"))))) (tRet (tOp (aAdd K) (xVar 1) (tC (.int 2)))) tNext) (tRet (xIf (xB (tOp (aIn K) (tOp (aIx K) (xVar 0) (xVar 1)) (tC (.str "()[]{},=<+-*/")))) (tOp (aAdd K) (xVar 1) (tC (.int 1))) (xVar 1)))))
theorem w_group_end {P : Program} {w : World} {K : PySem.W.Frag} {mg : Str → Option Value} {base : Heap} (G : Gs P K mg) (c_end_of : Cal P w K mg base 1 "end_of" ["text", "at", "signs"] (sp_end_of K)) {f : Addr} {cd : Value} {A : Around} {outer : List Env} {s : Shared} {H : Hp} {E : XK} (hr : Room 1 (A.deeper (envOfC "group_end" (defScope s_group_end) s.heap.objs.size f cd))) :
    PSs (cxOf (L2.CX P w) P w K mg base N_group_end "group_end" (defScope s_group_end) f cd A outer s H E) (defBody s_group_end) (r_group_end K E) :=
  (pss_cons (xs_for (passes_of rfl) rfl (xk_any (pe_tup (pa_cons (xe_gstr G.g_LETTERS) (pa_cons (xe_gstr G.g_FIGURES) pa_nil)))) (xg_nm (i := 2) sc_group_end.nd) (pss_one (xs_if (xt_cmp (xo_in hr.units) (pe_ix xi_ix (xv 0) (xv 1) (by intro _ _; rfl)) (xv 2)) (pss_one (ps_ret (xe_call c_end_of hr (takes_of rfl rfl rfl rfl) (pa_cons (xv 0) (pa_cons (xv 1) (pa_cons (xv 2) pa_nil)))))) pss_nil))) (pss_cons (xs_if (xt_cmp (xo_in hr.units) (pe_slice xs_sl (xv 0) (xp_some (xv 1)) (xp_some (pe_op xo_add (xv 1) pe_int))) (xe_gref G.g_DOUBLE)) (pss_one (ps_ret (pe_op xo_add (xv 1) pe_int))) pss_nil) (pss_one (ps_ret (xe_if (xt_cmp (xo_in hr.units) (pe_ix xi_ix (xv 0) (xv 1) (by intro _ _; rfl)) (xe_gstr G.g_SINGLE)) (pe_op xo_add (xv 1) pe_int) (xv 1))))))
/-! ### groups -/
def N_groups : List Str := ["text", "found", "at", "end"]
theorem sc_groups : FnScope N_groups ["text"] (defScope s_groups) := ⟨rfl, rfl, rfl, by decide +kernel, rfl, by decide +kernel, by decide +kernel⟩
def r_groups (K : PySem.W.Frag) (E : XK) : TS := (tSeq (xIfS (xOr (tNot (xTru K (tCB (on2T "str" (aIsi K "str")) (tCons (xVar 0) (tCons (tC (.ty "str")) tNil))))) (xB (tOp (aCmp fun i j => decide (j < i)) (tCB (on1 (aLen K)) (tCons (xVar 0) tNil)) (tC (.int 8000))))) (xRaise (fun cls d _ H => E cls d H) (tMkE (ga K "InvalidText") ["at", "why"] (tCons (tUn aNeg (tC (.int 1))) (tCons (tC (.int 0)) tNil)))) tNext) (tSeq (xPar 1 2 (tLst tNil) (tC (.int 0))) (tSeq (xWhile (xB (tOp (aCmp fun i j => decide (i < j)) (xVar 2) (tCB (on1 (aLen K)) (tCons (xVar 0) tNil)))) (xIfS (xB (tOp (aIn K) (tOp (aIx K) (xVar 0) (xVar 2)) (tTup (tCons (tC (.str " ")) (tCons (tC (.str "\n")) tNil))))) (xAug 2 (tC (.int 1)) aIAdd) (tSeq (tAsg (xCall (sp_group_end K) E (tCons (xVar 0) (tCons (xVar 2) tNil))) (gName 3)) (tSeq (xIfS (xB (tOp (aEq K) (xVar 3) (xVar 2))) (xRaise (fun cls d _ H => E cls d H) (tMkE (ga K "InvalidText") ["at", "why"] (tCons (tCB (on1 (aLen K)) (tCons (xVar 1) tNil)) (tCons (tC (.int 1)) tNil)))) tNext) (tSeq (xIfS (xB (tOp (aEq K) (tCB (on1 (aLen K)) (tCons (xVar 1) tNil)) (tC (.int 2000)))) (xRaise (fun cls d _ H => E cls d H) (tMkE (ga K "InvalidText") ["at", "why"] (tCons (tC (.int 2000)) (tCons (tC (.int 2)) tNil)))) tNext) (tSeq (tDrop (xApp (xVar 1) (tSl (aSl K) (xVar 0) (xPart (xVar 2)) (xPart (xVar 3))))) (tAsg (xVar 3) (gName 2)))))))) (tRet (tCB (on1 (aTupOf K)) (tCons (xVar 1) tNil))))))
theorem w_groups {P : Program} {w : World} {K : PySem.W.Frag} {mg : Str → Option Value} {base : Heap} (G : Gs P K mg) (c_group_end : Cal P w K mg base 2 "group_end" ["text", "at"] (sp_group_end K)) {f : Addr} {cd : Value} {A : Around} {outer : List Env} {s : Shared} {H : Hp} {E : XK} (hr : Room 2 (A.deeper (envOfC "groups" (defScope s_groups) s.heap.objs.size f cd))) :
    PSs (cxOf (L2.CX P w) P w K mg base N_groups "groups" (defScope s_groups) f cd A outer s H E) (defBody s_groups) (r_groups K E) :=
  (pss_cons (xs_if (xw_or (pt_not (xt_tru (xe_cb (xc_isi "str" (by decide)) G.b_isinstance bb_isinstance (pa_cons (xv 0) (pa_cons (xe_ty G.b_str bb_str) pa_nil))))) (pw_or1 (xt_cmp xo_gt (xe_cb xc_len G.b_len bb_len (pa_cons (xv 0) pa_nil)) (xe_gint G.g_MOST_SIGNS)))).pt (pss_one (xs_raise (takes_of rfl rfl rfl rfl) (xm_err (k := 0) G.e_InvalidText hr (pa_cons (pe_un xo_neg pe_int) (pa_cons pe_int pa_nil))))) pss_nil) (pss_cons (xs_par (i := 1) (j := 2) sc_groups.nd (pe_lst pa_nil) pe_int) (pss_cons (xs_while (passes_of rfl) (xt_cmp xo_lt (xv 2) (xe_cb xc_len G.b_len bb_len (pa_cons (xv 0) pa_nil))) (pss_one (xs_if (xt_cmp (xo_in hr.units) (pe_ix xi_ix (xv 0) (xv 2) (by intro _ _; rfl)) (pe_tup (pa_cons pe_str (pa_cons pe_str pa_nil)))) (pss_one (xs_aug (i := 2) sc_groups.nd xi_add pe_int)) (pss_cons (xs_set (i := 3) sc_groups.nd (xe_call c_group_end hr (takes_of rfl rfl rfl rfl) (pa_cons (xv 0) (pa_cons (xv 2) pa_nil)))) (pss_cons (xs_if (xt_cmp (xo_eq hr.units) (xv 3) (xv 2)) (pss_one (xs_raise (takes_of rfl rfl rfl rfl) (xm_err (k := 0) G.e_InvalidText hr (pa_cons (xe_cb xc_len G.b_len bb_len (pa_cons (xv 1) pa_nil)) (pa_cons pe_int pa_nil))))) pss_nil) (pss_cons (xs_if (xt_cmp (xo_eq hr.units) (xe_cb xc_len G.b_len bb_len (pa_cons (xv 1) pa_nil)) (xe_gint G.g_MOST_GROUPS)) (pss_one (xs_raise (takes_of rfl rfl rfl rfl) (xm_err (k := 0) G.e_InvalidText hr (pa_cons (xe_gint G.g_MOST_GROUPS) (pa_cons pe_int pa_nil))))) pss_nil) (pss_cons (ps_expr (pe_app (xv 1) (pe_slice xs_sl (xv 0) (xp_some (xv 2)) (xp_some (xv 3))))) (pss_one (xs_set (i := 2) sc_groups.nd (xv 3)))))))))) (pss_one (ps_ret (xe_ct xc_tup G.b_tuple bb_tuple (pa_cons (xv 1) pa_nil)))))))
/-! ### _law_box -/
def N_law_box : List Str := ["script", "rest", "state", "k", "cell", "size"]
theorem sc_law_box : FnScope N_law_box ["script"] (defScope s_law_box) := ⟨rfl, rfl, rfl, by decide +kernel, rfl, by decide +kernel, by decide +kernel⟩
theorem w_law_box {P : Program} {w : World} {K : PySem.W.Frag} {mg : Str → Option Value} {base : Heap} (G : Gs P K mg) {f : Addr} {cd : Value} {A : Around} {outer : List Env} {s : Shared} {H : Hp} {E : XK} (hr : Room 0 (A.deeper (envOfC "_law_box" (defScope s_law_box) s.heap.objs.size f cd))) :
    PSs (cxOf (L2.CX P w) P w K mg base N_law_box "_law_box" (defScope s_law_box) f cd A outer s H E) (defBody s_law_box) (r_law_box K E) :=
  (pss_cons (xs_par (i := 1) (j := 2) sc_law_box.nd (pe_lst pa_nil) pe_int) (pss_cons (xs_for (passes_of rfl) rfl (xk_en rfl G.b_enumerate (pe_slice xs_sl (xv 0) po_none (xp_some pe_int))) (xg_tup rfl (xgs_cons (xg_nm (i := 3) sc_law_box.nd) (xgs_cons (xg_nm (i := 4) sc_law_box.nd) xgs_nil))) (pss_cons (xs_set (i := 5) sc_law_box.nd (pe_op xo_add (pe_op xo_mul (xe_cb xc_abs G.b_abs bb_abs (pa_cons (xv 4) pa_nil)) pe_int) (xe_ct xc_int G.b_int bb_int (pa_cons (xe_cmp xo_lt (xv 4) pe_int) pa_nil)))) (pss_cons (xs_if (xt_cmp xo_ge (xe_cb xc_abs G.b_abs bb_abs (pa_cons (xv 4) pa_nil)) (pe_op xo_pow pe_int pe_int)) (pss_one (ps_expr (pe_app (xv 1) (xe_cb xc_abs G.b_abs bb_abs (pa_cons (xv 4) pa_nil))))) pss_nil) (pss_one (xs_set (i := 2) sc_law_box.nd (pe_op xo_add (pe_op xo_mod (xe_ct xc_int G.b_int bb_int (pa_cons (pe_op xo_add (pe_op xo_add (pe_op xo_mul (xv 2) pe_int) (pe_op xo_mul (pe_op xo_mod (xe_ct xc_int G.b_int bb_int (pa_cons (xv 5) pa_nil)) pe_int) (pe_op xo_add (pe_op xo_mul pe_int (xv 3)) pe_int))) pe_int) pa_nil)) pe_int) pe_int)))))) (pss_one (ps_ret (pe_lst (pa_cons (xv 1) (pa_cons (xv 2) pa_nil)))))))
/-! ### _law_take -/
def N_law_take : List Str := ["box", "many", "cell"]
theorem sc_law_take : FnScope N_law_take ["box", "many"] (defScope s_law_take) := ⟨rfl, rfl, rfl, by decide +kernel, rfl, by decide +kernel, by decide +kernel⟩
theorem w_law_take {P : Program} {w : World} {K : PySem.W.Frag} {mg : Str → Option Value} {base : Heap} (G : Gs P K mg) {f : Addr} {cd : Value} {A : Around} {outer : List Env} {s : Shared} {H : Hp} {E : XK} (hr : Room 0 (A.deeper (envOfC "_law_take" (defScope s_law_take) s.heap.objs.size f cd))) :
    PSs (cxOf (L2.CX P w) P w K mg base N_law_take "_law_take" (defScope s_law_take) f cd A outer s H E) (defBody s_law_take) (r_law_take K E) :=
  (pss_cons (xs_if (xt_cmp (xo_ne hr.units) (pe_ix xi_ix (xv 0) pe_int (by intro _ _; rfl)) (pe_lst pa_nil)) (pss_cons (xs_set (i := 2) sc_law_take.nd (pe_ix xi_ix (pe_ix xi_ix (xv 0) pe_int (by intro _ _; rfl)) pe_int (by intro _ _; rfl))) (pss_cons (ps_asg (pe_op xo_add (xe_if (xt_cmp xo_ge (xv 2) (xv 1)) (pe_lst (pa_cons (pe_op xo_fdv (xv 2) (xv 1)) pa_nil)) (pe_lst pa_nil)) (pe_slice xs_sl (pe_ix xi_ix (xv 0) pe_int (by intro _ _; rfl)) (xp_some pe_int) po_none)) (pg_sub (xv 0) pe_int xg_setL)) (pss_one (ps_ret (pe_op xo_mod (xe_ct xc_int G.b_int bb_int (pa_cons (xv 2) pa_nil)) (xv 1)))))) pss_nil) (pss_cons (ps_asg (pe_op xo_mod (xe_ct xc_int G.b_int bb_int (pa_cons (pe_op xo_mul (pe_ix xi_ix (xv 0) pe_int (by intro _ _; rfl)) pe_int) pa_nil)) pe_int) (pg_sub (xv 0) pe_int xg_setL)) (pss_one (ps_ret (pe_op xo_mod (xe_ct xc_int G.b_int bb_int (pa_cons (pe_op xo_fdv (pe_op xo_add (pe_op xo_mul (pe_ix xi_ix (xv 0) pe_int (by intro _ _; rfl)) pe_int) pe_int) pe_int) pa_nil)) (xv 1))))))
/-! ### _law_pick -/
def N_law_pick : List Str := ["box", "some"]
theorem sc_law_pick : FnScope N_law_pick ["box", "some"] (defScope s_law_pick) := ⟨rfl, rfl, rfl, by decide +kernel, rfl, by decide +kernel, by decide +kernel⟩
theorem w_law_pick {P : Program} {w : World} {K : PySem.W.Frag} {mg : Str → Option Value} {base : Heap} (G : Gs P K mg) (c_law_take : Cal P w K mg base 1 "_law_take" ["box", "many"] (sp_law_take K)) {f : Addr} {cd : Value} {A : Around} {outer : List Env} {s : Shared} {H : Hp} {E : XK} (hr : Room 1 (A.deeper (envOfC "_law_pick" (defScope s_law_pick) s.heap.objs.size f cd))) :
    PSs (cxOf (L2.CX P w) P w K mg base N_law_pick "_law_pick" (defScope s_law_pick) f cd A outer s H E) (defBody s_law_pick) (r_law_pick K E) :=
  (pss_one (ps_ret (pe_ix xi_ix (xv 1) (xe_call c_law_take hr (takes_of rfl rfl rfl rfl) (pa_cons (xv 0) (pa_cons (xe_cb xc_len G.b_len bb_len (pa_cons (xv 1) pa_nil)) pa_nil))) (by intro _ _; rfl))))
/-! ### _law_is -/
def N_law_is : List Str := ["told", "due", "one", "other"]
theorem sc_law_is : FnScope N_law_is ["told", "due"] (defScope s_law_is) := ⟨rfl, rfl, rfl, by decide +kernel, rfl, by decide +kernel, by decide +kernel⟩
theorem w_law_is {P : Program} {w : World} {K : PySem.W.Frag} {mg : Str → Option Value} {base : Heap} {kk : Nat} {sp : Sp} (G : Gs P K mg) (c_law_is : Cal P w K mg base kk "_law_is" ["told", "due"] sp) {f : Addr} {cd : Value} {A : Around} {outer : List Env} {s : Shared} {H : Hp} {E : XK} (hr : Room kk (A.deeper (envOfC "_law_is" (defScope s_law_is) s.heap.objs.size f cd))) :
    PSs (cxOf (L2.CX P w) P w K mg base N_law_is "_law_is" (defScope s_law_is) f cd A outer s H E) (defBody s_law_is) (r_law_isG K sp) :=
  (pss_cons (xs_if (xt_tru (xe_cb (xc_isi "tuple" (by decide)) G.b_isinstance bb_isinstance (pa_cons (xv 1) (pa_cons (xe_ty G.b_tuple bb_tuple) pa_nil)))) (pss_cons (xs_if (xw_or (pt_not (xt_tru (xe_cb (xc_isi "tuple" (by decide)) G.b_isinstance bb_isinstance (pa_cons (xv 0) (pa_cons (xe_ty G.b_tuple bb_tuple) pa_nil))))) (pw_or1 (xt_cmp (xo_ne hr.units) (xe_cb xc_len G.b_len bb_len (pa_cons (xv 0) pa_nil)) (xe_cb xc_len G.b_len bb_len (pa_cons (xv 1) pa_nil))))).pt (pss_one (ps_ret pe_bl)) pss_nil) (pss_one (ps_ret (xe_cmp (xo_eq hr.units) (xe_lc (own := [("one", 2), ("other", 3)]) rfl sc_law_is.nd (xk_zipT rfl G.b_zip (xv 0) (xv 1)) (blkOk_by (N := N_law_is) (sc := defScope s_law_is) (by decide +kernel)) (fun _ _ _ _ _ => (xg_tup rfl (xgs_cons (xg_nm (i := 2) sc_law_is.nd) (xgs_cons (xg_nm (i := 3) sc_law_is.nd) xgs_nil)))) (fun _ _ _ _ _ => (pts_one (pt_not (xt_tru (xe_call c_law_is hr LamX.takes0 (pa_cons (xv 2) (pa_cons (xv 3) pa_nil))))))) (fun _ _ _ _ _ => pe_int)) (pe_lst pa_nil))))) pss_nil) (pss_cons (xs_if (xw_or (xt_cmp xo_is (xv 1) pe_non) (xw_or (xt_cmp xo_is (xv 1) pe_bl) (pw_or1 (xt_cmp xo_is (xv 1) pe_bl)))).pt (pss_one (ps_ret (xe_if (xt_cmp xo_is (xv 1) pe_non) (xe_cmp xo_is (xv 0) pe_non) (xe_if (xt_cmp xo_is (xv 1) pe_bl) (xe_cmp xo_is (xv 0) pe_bl) (xe_cmp xo_is (xv 0) pe_bl))))) pss_nil) (pss_cons (xs_if (xt_tru (xe_cb (xc_isi "int" (by decide)) G.b_isinstance bb_isinstance (pa_cons (xv 1) (pa_cons (xe_ty G.b_int bb_int) pa_nil)))) (pss_one (ps_ret (xe_and (xe_cb (xc_isi "int" (by decide)) G.b_isinstance bb_isinstance (pa_cons (xv 0) (pa_cons (xe_ty G.b_int bb_int) pa_nil))) (xe_and (xe_not (xe_cb (xc_isi "bool" (by decide)) G.b_isinstance bb_isinstance (pa_cons (xv 0) (pa_cons (xe_ty G.b_bool bb_bool) pa_nil)))) (pe_one (xe_cmp (xo_eq hr.units) (xv 0) (xv 1))))))) pss_nil) (pss_one (ps_ret (xe_and (xe_cb (xc_isi "str" (by decide)) G.b_isinstance bb_isinstance (pa_cons (xv 1) (pa_cons (xe_ty G.b_str bb_str) pa_nil))) (xe_and (xe_cb (xc_isi "str" (by decide)) G.b_isinstance bb_isinstance (pa_cons (xv 0) (pa_cons (xe_ty G.b_str bb_str) pa_nil))) (pe_one (xe_cmp (xo_eq hr.units) (xv 0) (xv 1))))))))))
/-! ### _law_cut -/
def N_law_cut : List Str := ["text", "found", "last", "at", "sign", "sort"]
theorem sc_law_cut : FnScope N_law_cut ["text"] (defScope s_law_cut) := ⟨rfl, rfl, rfl, by decide +kernel, rfl, by decide +kernel, by decide +kernel⟩
def r_law_cut (K : PySem.W.Frag) (E : XK) : TS := (tSeq (xPar 1 2 (tLst tNil) (tC (.str " "))) (tSeq (xFor (kEn K (xVar 0)) (xgTup K 2 (xgCons (gName 3) (xgCons (gName 4) xgNil))) (tSeq (tAsg (xIf (xB (tOp (aIn K) (xVar 4) (tC (.str "abcdefghijklmnopqrstuvwxyz")))) (tC (.str "a")) (xIf (xB (tOp (aIn K) (xVar 4) (tC (.str "0123456789")))) (tC (.str "1")) (xVar 4))) (gName 5)) (tSeq (xIfS (xAnd (xB (tOp (aNot (aEq K)) (xVar 1) (tLst tNil))) (xAnd (xB (tOp (aEq K) (xVar 5) (xVar 2))) (xB (tOp (aIn K) (xVar 5) (tTup (tCons (tC (.str "a")) (tCons (tC (.str "1")) tNil))))))) (tAsg (tOp (aAdd K) (tOp (aIx K) (xVar 1) (tOp aSub (tCB (on1 (aLen K)) (tCons (xVar 1) tNil)) (tC (.int 1)))) (xVar 4)) (gSub (xVar 1) (tOp aSub (tCB (on1 (aLen K)) (tCons (xVar 1) tNil)) (tC (.int 1))) aSetL)) (xIfS (xAnd (xB (tOp (aIn K) (xVar 2) (tTup (tCons (tC (.str "=")) (tCons (tC (.str "!")) (tCons (tC (.str "<")) tNil)))))) (xB (tOp (aEq K) (xVar 4) (tC (.str "="))))) (tSeq (tAsg (tOp (aAdd K) (xVar 2) (xVar 4)) (gSub (xVar 1) (tOp aSub (tCB (on1 (aLen K)) (tCons (xVar 1) tNil)) (tC (.int 1))) aSetL)) (tAsg (tC (.str "2")) (gName 5))) (xIfS (xB (tOp (aNot (aIn K)) (xVar 4) (tTup (tCons (tC (.str " ")) (tCons (tC (.str "\n")) tNil))))) (tDrop (xApp (xVar 1) (xVar 4))) tNext))) (tAsg (xVar 5) (gName 2))))) (tRet (xVar 1))))
theorem w_law_cut {P : Program} {w : World} {K : PySem.W.Frag} {mg : Str → Option Value} {base : Heap} (G : Gs P K mg) {f : Addr} {cd : Value} {A : Around} {outer : List Env} {s : Shared} {H : Hp} {E : XK} (hr : Room 0 (A.deeper (envOfC "_law_cut" (defScope s_law_cut) s.heap.objs.size f cd))) :
    PSs (cxOf (L2.CX P w) P w K mg base N_law_cut "_law_cut" (defScope s_law_cut) f cd A outer s H E) (defBody s_law_cut) (r_law_cut K E) :=
  (pss_cons (xs_par (i := 1) (j := 2) sc_law_cut.nd (pe_lst pa_nil) pe_str) (pss_cons (xs_for (passes_of rfl) rfl (xk_en rfl G.b_enumerate (xv 0)) (xg_tup rfl (xgs_cons (xg_nm (i := 3) sc_law_cut.nd) (xgs_cons (xg_nm (i := 4) sc_law_cut.nd) xgs_nil))) (pss_cons (xs_set (i := 5) sc_law_cut.nd (xe_if (xt_cmp (xo_in hr.units) (xv 4) pe_str) pe_str (xe_if (xt_cmp (xo_in hr.units) (xv 4) pe_str) pe_str (xv 4)))) (pss_cons (xs_if (xw_and (xt_cmp (xo_ne hr.units) (xv 1) (pe_lst pa_nil)) (xw_and (xt_cmp (xo_eq hr.units) (xv 5) (xv 2)) (pw_and1 (xt_cmp (xo_in hr.units) (xv 5) (pe_tup (pa_cons pe_str (pa_cons pe_str pa_nil))))))).pt (pss_one (ps_asg (pe_op xo_add (pe_ix xi_ix (xv 1) (pe_op xo_sub (xe_cb xc_len G.b_len bb_len (pa_cons (xv 1) pa_nil)) pe_int) (by intro _ _; rfl)) (xv 4)) (pg_sub (xv 1) (pe_op xo_sub (xe_cb xc_len G.b_len bb_len (pa_cons (xv 1) pa_nil)) pe_int) xg_setL))) (pss_one (xs_if (xw_and (xt_cmp (xo_in hr.units) (xv 2) (pe_tup (pa_cons pe_str (pa_cons pe_str (pa_cons pe_str pa_nil))))) (pw_and1 (xt_cmp (xo_eq hr.units) (xv 4) pe_str))).pt (pss_cons (ps_asg (pe_op xo_add (xv 2) (xv 4)) (pg_sub (xv 1) (pe_op xo_sub (xe_cb xc_len G.b_len bb_len (pa_cons (xv 1) pa_nil)) pe_int) xg_setL)) (pss_one (xs_set (i := 5) sc_law_cut.nd pe_str))) (pss_one (xs_if (xt_cmp (xo_nin hr.units) (xv 4) (pe_tup (pa_cons pe_str (pa_cons pe_str pa_nil)))) (pss_one (ps_expr (pe_app (xv 1) (xv 4)))) pss_nil))))) (pss_one (xs_set (i := 2) sc_law_cut.nd (xv 5)))))) (pss_one (ps_ret (xv 1)))))
/-! ### _law_piece -/
def N_law_piece : List Str := ["box", "some"]
theorem sc_law_piece : FnScope N_law_piece ["box"] (defScope s_law_piece) := ⟨rfl, rfl, rfl, by decide +kernel, rfl, by decide +kernel, by decide +kernel⟩
def r_law_piece (K : PySem.W.Frag) (E : XK) : TS := (tSeq (tAsg (tLst (tCons (tC (.str "a")) (tCons (tC (.str "cell")) (tCons (tC (.str "x")) (tCons (tC (.str "on")) (tCons (tC (.str "while")) (tCons (tC (.str "0")) (tCons (tC (.str "17")) (tCons (tC (.str "007")) (tCons (tC (.str "==")) (tCons (tC (.str "!=")) (tCons (tC (.str "<=")) (tCons (tC (.str "<")) (tCons (tC (.str "=")) (tCons (tC (.str "+")) (tCons (tC (.str "-")) (tCons (tC (.str "*")) (tCons (tC (.str "/")) (tCons (tC (.str "(")) (tCons (tC (.str ")")) (tCons (tC (.str "{")) (tCons (tC (.str "}")) (tCons (tC (.str "[")) (tCons (tC (.str "]")) (tCons (tC (.str ",")) tNil))))))))))))))))))))))))) (gName 1)) (tRet (xCall (sp_law_pick K) E (tCons (xVar 0) (tCons (tOp (aAdd K) (xVar 1) (tLst (tCons (tC (.str " ")) (tCons (tC (.str "\n")) (tCons (tC (.str "  ")) tNil))))) tNil)))))
theorem w_law_piece {P : Program} {w : World} {K : PySem.W.Frag} {mg : Str → Option Value} {base : Heap} (G : Gs P K mg) (c_law_pick : Cal P w K mg base 2 "_law_pick" ["box", "some"] (sp_law_pick K)) {f : Addr} {cd : Value} {A : Around} {outer : List Env} {s : Shared} {H : Hp} {E : XK} (hr : Room 2 (A.deeper (envOfC "_law_piece" (defScope s_law_piece) s.heap.objs.size f cd))) :
    PSs (cxOf (L2.CX P w) P w K mg base N_law_piece "_law_piece" (defScope s_law_piece) f cd A outer s H E) (defBody s_law_piece) (r_law_piece K E) :=
  (pss_cons (xs_set (i := 1) sc_law_piece.nd (pe_lst (pa_cons pe_str (pa_cons pe_str (pa_cons pe_str (pa_cons pe_str (pa_cons pe_str (pa_cons pe_str (pa_cons pe_str (pa_cons pe_str (pa_cons pe_str (pa_cons pe_str (pa_cons pe_str (pa_cons pe_str (pa_cons pe_str (pa_cons pe_str (pa_cons pe_str (pa_cons pe_str (pa_cons pe_str (pa_cons pe_str (pa_cons pe_str (pa_cons pe_str (pa_cons pe_str (pa_cons pe_str (pa_cons pe_str (pa_cons pe_str pa_nil)))))))))))))))))))))))))) (pss_one (ps_ret (xe_call c_law_pick hr (takes_of rfl rfl rfl rfl) (pa_cons (xv 0) (pa_cons (pe_op xo_add (xv 1) (pe_lst (pa_cons pe_str (pa_cons pe_str (pa_cons pe_str pa_nil))))) pa_nil))))))
end K01
set_option Elab.async false
set_option linter.all false
set_option maxRecDepth 100000
set_option maxHeartbeats 4000000
/-! K01P1: end_of, group_end, groups keep their promises. -/
namespace K01
open PySem PySem.Spec PyProof.Rows L2 He Wh
theorem tw_step {p : Nat → Bool} {l : List Nat} {e : Nat} (h : e < l.length) : ((l.drop e).takeWhile p).length = if p l[e] then 1 + ((l.drop (e + 1)).takeWhile p).length else 0 := by
  rw [List.drop_eq_getElem_cons h, List.takeWhile_cons]
  by_cases q : p l[e] = true
  · rw [if_pos q, if_pos q, List.length_cons, Nat.add_comm]
  · rw [if_neg q, if_neg q]; rfl
theorem tw_le {p : Nat → Bool} (l : List Nat) (n : Nat) : n ≤ l.length → n + ((l.drop n).takeWhile p).length ≤ l.length := fun h => by
  have h1 : ((l.drop n).takeWhile p).length ≤ (l.drop n).length := List.Sublist.length_le (List.takeWhile_sublist _)
  rw [List.length_drop] at h1
  omega
def muE (n : Nat) (σ : L2.St) (_ : Hp) : Nat := match (σ[3]? : Option (Option V)) with
  | some (some (V.int e)) => n - e.toNat
  | _ => 0
theorem p_end_of {K : PySem.W.Frag} (vs : List V) (H : Hp) (Q : VK) (E : XK) (h : sp_end_of K vs H Q E) : r_end_of K E { nx := fun _ H' => Q .non H', rt := Q } (start N_end_of vs) H := by
  obtain ⟨l, n, w, rfl, hn, hl, hQ⟩ := h
  have hb := big
  generalize hp : (fun c => decide (c ∈ w.cps.toList)) = p at hQ
  refine ⟨fun σ H1 => H1 = H ∧ ∃ e : Nat, σ = [some (.str (S l)), some (.int n), some (.str w), some (.int e)] ∧ n ≤ e ∧ e ≤ l.length ∧ n + ((l.drop n).takeWhile p).length = e + ((l.drop e).takeWhile p).length, muE l.length, ⟨rfl, n, rfl, Nat.le_refl _, hn, rfl⟩, ?_⟩
  rintro σ H1 ⟨rfl, e, rfl, h1, h2, h3⟩
  refine ⟨by rw [S_len]; omega, ?_⟩
  refine br_of (fun z => ?_) fun z => ?_
  · have he : e < l.length := by
      have z := of_decide_eq_true z
      rw [S_list] at z
      omega
    refine ⟨by rw [S_len]; omega, l[e], atI_nat (by rw [S_list]; simp [he]), ?_⟩
    refine ⟨l[e], rfl, ?_⟩
    have st := tw_step (p := p) he
    refine br_of (fun z2 => ?_) fun z2 => ?_
    · have hpe : p l[e] = true := by rw [← hp]; exact z2
      rw [if_pos hpe] at st
      refine ⟨⟨rfl, e + 1, rfl, by omega, by omega, by omega⟩, ?_⟩
      show l.length - ((e : Int) + 1).toNat < l.length - (e : Int).toNat
      omega
    · have hpe : p l[e] = false := by rw [← hp]; exact z2
      rw [hpe, if_neg Bool.false_ne_true] at st
      have e2 : n + ((l.drop n).takeWhile p).length = e := by omega
      rw [e2] at hQ
      exact hQ
  · have he : e = l.length := by
      have z := of_decide_eq_false z
      rw [S_list] at z
      omega
    have e2 : n + ((l.drop n).takeWhile p).length = e := by
      rw [h3, List.drop_eq_nil_of_le (by omega)]
      rfl
    rw [e2] at hQ
    exact hQ
theorem mem_let (c : Nat) : decide (c ∈ ("abcdefghijklmnopqrstuvwxyz" : Str).cps.toList) = isL c := by
  have e : ("abcdefghijklmnopqrstuvwxyz" : Str).cps.toList = [97, 98, 99, 100, 101, 102, 103, 104, 105, 106, 107, 108, 109, 110, 111, 112, 113, 114, 115, 116, 117, 118, 119, 120, 121, 122] := by decide +kernel
  rw [e, Bool.eq_iff_iff]
  unfold isL
  simp only [List.mem_cons, List.not_mem_nil, or_false, decide_eq_true_eq, Bool.and_eq_true]
  omega
theorem mem_fig (c : Nat) : decide (c ∈ ("0123456789" : Str).cps.toList) = isD c := by
  have e : ("0123456789" : Str).cps.toList = [48, 49, 50, 51, 52, 53, 54, 55, 56, 57] := by decide +kernel
  rw [e, Bool.eq_iff_iff]
  unfold isD
  simp only [List.mem_cons, List.not_mem_nil, or_false, decide_eq_true_eq, Bool.and_eq_true]
  omega
theorem mem_single (c : Nat) : decide (c ∈ ("()[]{},=<+-*/" : Str).cps.toList) = isS c := by
  have e : ("()[]{},=<+-*/" : Str).cps.toList = [40, 41, 91, 93, 123, 125, 44, 61, 60, 43, 45, 42, 47] := by decide +kernel
  rw [e]
  unfold isS
  simp
theorem glen_at {l : List Nat} {n : Nat} (h : n < l.length) : glen (l.drop n) = if isL l[n] then ((l.drop n).takeWhile isL).length else if isD l[n] then ((l.drop n).takeWhile isD).length
    else if isE l[n] && (l.drop (n + 1)).head? == some 61 then 2 else if isS l[n] then 1 else 0 := by
  rw [List.drop_eq_getElem_cons h, glen_cons]
  by_cases h1 : isL l[n] = true
  · rw [if_pos h1, if_pos h1, List.takeWhile_cons, if_pos h1, List.length_cons, Nat.add_comm]
  · rw [if_neg h1, if_neg h1]
    by_cases h2 : isD l[n] = true
    · rw [if_pos h2, if_pos h2, List.takeWhile_cons, if_pos h2, List.length_cons, Nat.add_comm]
    · rw [if_neg h2, if_neg h2]
theorem two_at {l : List Nat} {n : Nat} (h : n < l.length) : ((l.drop n).take 2 = [61, 61] ∨ (l.drop n).take 2 = [33, 61] ∨ (l.drop n).take 2 = [60, 61]) ↔ (isE l[n] && (l.drop (n + 1)).head? == some 61) = true := by
  rw [List.drop_eq_getElem_cons h]
  generalize l[n] = c
  generalize l.drop (n + 1) = r
  cases r with
  | nil => simp
  | cons d r =>
    unfold isE
    simp
    omega
theorem double_is {K : PySem.W.Frag} {P : Program} {mg : Str → Option Value} (G : Gs P K mg) (H : Hp) : SqT K H (ga K "DOUBLE") [.str (S [61, 61]), .str (S [33, 61]), .str (S [60, 61])] := tupB_ok G.t_DOUBLE H
theorem inV_strs (l : List Nat) : inV (.str (S l)) [.str (S [61, 61]), .str (S [33, 61]), .str (S [60, 61])] = decide (l = [61, 61] ∨ l = [33, 61] ∨ l = [60, 61]) := by
  show ((S [61, 61] == S l) || ((S [33, 61] == S l) || ((S [60, 61] == S l) || false))) = _
  rw [S_beq, S_beq, S_beq, Bool.eq_iff_iff]
  simp only [Bool.or_eq_true, decide_eq_true_eq, Bool.or_false, eq_comm (a := l)]
theorem p_group_end {K : PySem.W.Frag} {P : Program} {mg : Str → Option Value} (G : Gs P K mg) (vs : List V) (H : Hp) (Q : VK) (E : XK) (h : sp_group_end K vs H Q E) : r_group_end K E { nx := fun _ H' => Q .non H', rt := Q } (start N_group_end vs) H := by
  obtain ⟨l, n, rfl, hn, hl, hQ⟩ := h
  have hb := big
  have hg := glen_at hn
  refine ⟨Nat.le_trans (by simp) big, fun p hp => .inr ⟨_, .of upd_same, ?_⟩⟩
  have x1 : Xt [] H (upd H p (.tup [.str "abcdefghijklmnopqrstuvwxyz", .str "0123456789"])) := .new hp
  generalize hH1 : upd H p (.tup [.str "abcdefghijklmnopqrstuvwxyz", .str "0123456789"]) = H1 at x1
  have ht : SqT K H1 p [.str "abcdefghijklmnopqrstuvwxyz", .str "0123456789"] := by
    rw [← hH1]
    exact .of upd_same
  have hat : atI (S l).cps.toList (n : Int) = some l[n] := atI_nat (by rw [S_list]; simp [hn])
  have hz : (S l).length ≤ sizeLine := by rw [S_len]; omega
  have hret : ∀ (w : Str) (H2 : Hp), Xt [] H H2 → glen (l.drop n) = ((l.drop n).takeWhile fun c => decide (c ∈ w.cps.toList)).length → sp_end_of K [.str (S l), .int n, .str w] H2 Q E := fun w H2 x e => by
    refine ⟨l, n, w, rfl, by omega, hl, ?_⟩
    rw [← e]
    exact hQ H2 x
  refine ⟨fun i σ H2 => H2 = H1 ∧ ∃ r : Option V, σ = [some (.str (S l)), some (.int n), r] ∧ (1 ≤ i → isL l[n] = false) ∧ (2 ≤ i → isD l[n] = false), ⟨rfl, none, rfl, fun z => absurd z (by decide), fun z => absurd z (by decide)⟩, ?_, ?_, ?_⟩
  · rintro i σ H2 hi ⟨rfl, _⟩
    exact ht
  · rintro i v σ H2 H3 hi ⟨rfl, r, rfl, g1, g2⟩ ⟨rfl, y⟩
    have hi2 : i < 2 := hi
    rcases (by omega : i = 0 ∨ i = 1) with rfl | rfl
    · obtain rfl : V.str "abcdefghijklmnopqrstuvwxyz" = v := Option.some.inj y
      refine ⟨hz, _, hat, _, rfl, ?_⟩
      refine br_of (fun z => ?_) fun z => ?_
      · rw [mem_let] at z
        rw [if_pos z] at hg
        refine hret _ _ x1 ?_
        rw [hg]
        congr 2
        funext c
        exact (mem_let c).symm
      · rw [mem_let] at z
        exact ⟨rfl, _, rfl, fun _ => z, fun w => absurd w (by decide)⟩
    · obtain rfl : V.str "0123456789" = v := Option.some.inj y
      refine ⟨hz, _, hat, _, rfl, ?_⟩
      refine br_of (fun z => ?_) fun z => ?_
      · rw [mem_fig] at z
        rw [g1 (by decide), if_neg Bool.false_ne_true, if_pos z] at hg
        refine hret _ _ x1 ?_
        rw [hg]
        congr 2
        funext c
        exact (mem_fig c).symm
      · rw [mem_fig] at z
        exact ⟨rfl, _, rfl, fun _ => g1 (by decide), fun _ => z⟩
  · rintro σ H2 ⟨rfl, r, rfl, g1, g2⟩
    have g1 := g1 (by decide)
    have g2 := g2 (by decide)
    rw [g1, g2, if_neg Bool.false_ne_true, if_neg Bool.false_ne_true] at hg
    refine ⟨hz, ?_⟩
    have hcut : (⟨(((S l).cps.toList.drop (HT.sIx (S l).length 0 (some (n : Int)))).take (HT.sIx (S l).length (S l).length (some ((n : Int) + 2)) - HT.sIx (S l).length 0 (some (n : Int)))).toArray⟩ : Str) = S ((l.drop n).take 2) := by
      have z := HT.sIx_nat (S l).length (S l).length (n + 2)
      have z2 : HT.sIx (S l).length (S l).length (some ((n : Int) + 2)) = min (n + 2) (S l).length := z
      rw [HT.sIx_nat, z2, S_len, Nat.min_eq_left (by omega : n ≤ l.length)]
      rcases Nat.le_total (n + 2) l.length with q | q
      · rw [Nat.min_eq_left q, show n + 2 - n = 2 by omega]
        rfl
      · rw [Nat.min_eq_right q]
        have e : (l.drop n).take 2 = (l.drop n).take (l.length - n) := by
          rw [List.take_of_length_le (by rw [List.length_drop]; omega), List.take_of_length_le (by rw [List.length_drop]; omega)]
        rw [e]
        rfl
    rw [hcut]
    refine ⟨_, .inr (double_is G H2), rfl, rfl, ?_⟩
    rw [inV_strs]
    refine br_of (fun z => ?_) fun z => ?_
    · rw [if_pos ((two_at hn).mp (of_decide_eq_true z))] at hg
      have := hQ H2 x1
      rw [hg] at this
      exact this
    · have z2 : ¬ (isE l[n] && (l.drop (n + 1)).head? == some 61) = true := fun q => of_decide_eq_false z ((two_at hn).mpr q)
      rw [if_neg z2] at hg
      refine ⟨hz, _, hat, _, rfl, ?_⟩
      rw [mem_single]
      have q1 := hQ H2 x1
      refine br_of (fun z => ?_) fun z => ?_
      · rw [if_pos z] at hg
        rw [hg] at q1
        exact q1
      · rw [z, if_neg Bool.false_ne_true] at hg
        rw [hg] at q1
        exact q1
end K01
set_option Elab.async false
set_option linter.all false
set_option maxRecDepth 100000
set_option maxHeartbeats 4000000
/-! K01P2: groups keeps its promise. -/
namespace K01
open PySem PySem.Spec PyProof.Rows L2 He Wh
theorem inV_blank (c : Nat) : inV (.str ⟨#[c]⟩) [.str " ", .str "\n"] = isB c := by
  have e1 : (" " : Str) = S [32] := rfl
  have e2 : ("\n" : Str) = S [10] := rfl
  show ((S [32] == S [c]) || ((S [10] == S [c]) || false)) = _
  rw [S_beq, S_beq, Bool.eq_iff_iff]
  unfold isB
  simp only [Bool.or_eq_true, decide_eq_true_eq, Bool.or_false, beq_iff_eq, List.cons.injEq, and_true]
  omega
def muG (n : Nat) (σ : L2.St) (_ : Hp) : Nat := match (σ[2]? : Option (Option V)) with
  | some (some (V.int e)) => n - e.toNat
  | _ => 0
theorem Xt.fresh {B : List Addr} {H H1 : Hp} {p q : Addr} {o : HO} (x : Xt B H H1) (hp : H p = none) (e : H1 p = some o) (hq : H1 q = none) : p ≠ q := ne_of_none e hq
theorem p_groups {K : PySem.W.Frag} (vs : List V) (H : Hp) (Q : VK) (E : XK) (h : sp_groups K vs H Q E) : r_groups K E { nx := fun _ H' => Q .non H', rt := Q } (start N_groups vs) H := by
  obtain ⟨v, r, rfl, ha, hA⟩ := h
  have hb := big
  cases ha with
  | non => exact ⟨rfl, rfl, fun d hd => hA d _ (.new hd) upd_same⟩
  | int i => exact ⟨rfl, rfl, fun d hd => hA d _ (.new hd) upd_same⟩
  | bl i => exact ⟨rfl, rfl, fun d hd => hA d _ (.new hd) upd_same⟩
  | lst h => exact ⟨rfl, .inl ⟨⟨_, h⟩, rfl, fun d hd => hA d _ (.new hd) upd_same⟩⟩
  | tup h => exact ⟨rfl, .inr (.inl ⟨⟨_, h⟩, rfl, fun d hd => hA d _ (.new hd) upd_same⟩)⟩
  | @long l h1 h2 =>
    refine ⟨rfl, ⟨by rw [S_len]; omega, ?_⟩⟩
    refine br_of (fun z => ?_) fun z => ?_
    · exact ⟨rfl, fun d hd => hA d _ (.new hd) upd_same⟩
    · have z := of_decide_eq_false z
      rw [S_list] at z
      omega
  | @text l h1 =>
    have hz : (S l).length ≤ sizeLine := by rw [S_len]; omega
    refine ⟨rfl, ⟨hz, ?_⟩⟩
    refine br_of (fun z => ?_) fun z => ?_
    · have z := of_decide_eq_true z
      rw [S_list] at z
      omega
    refine ⟨by decide, fun p hp => ?_⟩
    refine ⟨fun σ H1 => Xt [] H H1 ∧ ∃ (n : Nat) (f : List (List Nat)) (r : Option V), σ = [some (.str (S l)), some (.ref p), some (.int n), r] ∧ n ≤ l.length ∧ H1 p = some (.lst (f.map fun g => .str (S g))) ∧
      f.length ≤ 2000 ∧ T l = (f ++ (T (l.drop n)).1, (T (l.drop n)).2), muG l.length, ⟨.new hp, 0, [], none, rfl, by omega, upd_same, by simp, by simp⟩, ?_⟩
    rintro σ H1 ⟨x1, n, f, r, rfl, hn, e1, hf, hT⟩
    refine ⟨hz, ?_⟩
    refine br_of (fun z => ?_) fun z => ?_
    · have he : n < l.length := by
        have z := of_decide_eq_true z
        rw [S_list] at z
        omega
      have hd := List.drop_eq_getElem_cons he
      refine ⟨hz, l[n], atI_nat (by rw [S_list]; simp [he]), by decide, fun q hq => ?_⟩
      refine ⟨_, .inr (.of upd_same), rfl, rfl, ?_⟩
      rw [inV_blank]
      have x2 : Xt [] H (upd H1 q (.tup [.str " ", .str "\n"])) := x1.trans (.new hq)
      have e2 : upd H1 q (.tup [.str " ", .str "\n"]) p = some (.lst (f.map fun g => .str (S g))) := by rw [upd_ne (ne_of_none e1 hq)]; exact e1
      generalize upd H1 q (.tup [.str " ", .str "\n"]) = H2 at x2 e2
      refine br_of (fun z2 => ?_) fun z2 => ?_
      · rw [hd, T_blank _ z2] at hT
        refine ⟨⟨x2, n + 1, f, r, rfl, by omega, e2, hf, hT⟩, ?_⟩
        show l.length - ((n : Int) + 1).toNat < l.length - (n : Int).toNat
        omega
      · refine ⟨l, n, rfl, he, h1, fun H3 x3 => ?_⟩
        have x4 := x2.trans x3
        have e3 := x3.get e2
        have hgl : n + glen (l.drop n) ≤ l.length := by
          have := glen_le (l.drop n)
          rw [List.length_drop] at this
          omega
        refine br_of (fun z3 => ?_) fun z3 => ?_
        · have hk : glen (l.drop n) = 0 := by
            have z3 : (((n + glen (l.drop n) : Nat) : Int) == (n : Int)) = true := z3
            rw [beq_iff_eq] at z3
            omega
          rw [hd] at hk
          rw [hd, T_wrong z2 hk, List.append_nil] at hT
          rw [grp_wrong hT hf] at hA
          refine ⟨_, .inl (.of e3), rfl, fun d hd' => ?_⟩
          refine hA d _ (x4.trans (.new hd')) ?_
          rw [List.length_map]
          exact upd_same
        · have hk : 0 < glen (l.drop n) := by
            have z3 : (((n + glen (l.drop n) : Nat) : Int) == (n : Int)) = false := z3
            rw [beq_eq_false_iff_ne] at z3
            omega
          have hT2 : T l = (f ++ ((l.drop n).take (glen (l.drop n)) :: (T (l.drop (n + glen (l.drop n)))).1), (T (l.drop (n + glen (l.drop n)))).2) := by
            rw [hT]
            have q : T (l.drop n) = ((l.drop n).take (glen (l.drop n)) :: (T ((l.drop n).drop (glen (l.drop n)))).1, (T ((l.drop n).drop (glen (l.drop n)))).2) := by
              rw [hd] at hk ⊢
              exact T_group z2 rfl hk
            rw [List.drop_drop] at q
            rw [q]
          refine ⟨_, .inl (.of e3), ?_⟩
          rw [List.length_map]
          refine br_of (fun z4 => ?_) fun z4 => ?_
          · have hl : f.length = 2000 := by
              have z4 : ((f.length : Int) == 2000) = true := z4
              rw [beq_iff_eq] at z4
              omega
            rw [grp_many hT2 (by simp; omega)] at hA
            exact ⟨rfl, fun d hd' => hA d _ (x4.trans (.new hd')) upd_same⟩
          · have hl : f.length < 2000 := by
              have z4 : ((f.length : Int) == 2000) = false := z4
              rw [beq_eq_false_iff_ne] at z4
              omega
            refine ⟨⟨_, e3⟩, hz, _, e3, by rw [List.length_map]; omega, ?_⟩
            refine ⟨⟨x4.mut hp, n + glen (l.drop n), f ++ [(l.drop n).take (glen (l.drop n))], _, rfl, hgl, ?_, by simp; omega, by rw [hT2]; simp⟩, ?_⟩
            · rw [upd_same, List.map_append, S_cut (by omega) hgl, show n + glen (l.drop n) - n = glen (l.drop n) by omega]
              rfl
            · show l.length - (((n + glen (l.drop n) : Nat)) : Int).toNat < l.length - (n : Int).toNat
              omega
    · have he : n = l.length := by
        have z := of_decide_eq_false z
        rw [S_list] at z
        omega
      rw [he, List.drop_length, T_nil, List.append_nil] at hT
      rw [grp_ok hT hf] at hA
      refine ⟨_, .inl ⟨.of e1, fun q hq => ?_⟩⟩
      exact hA q _ (x1.trans (.new hq)) (x1.free0 hq) upd_same
end K01
set_option Elab.async false
set_option linter.all false
set_option maxRecDepth 100000
set_option maxHeartbeats 4000000
/-! K01P3: the law's own cutting, its pieces. -/
namespace K01
open PySem PySem.Spec PyProof.Rows L2 He Wh
theorem step_add {f : List (List Nat)} {s c : Nat} (h : f ≠ [] ∧ sortOf c = s ∧ (sortOf c = 97 ∨ sortOf c = 49)) : step (f, s) c = (lastAdd f c, sortOf c) := by unfold step; rw [if_pos h]
theorem step_two {f : List (List Nat)} {s c : Nat} (h : ¬ (f ≠ [] ∧ sortOf c = s ∧ (sortOf c = 97 ∨ sortOf c = 49))) (h2 : isE s = true ∧ c = 61) : step (f, s) c = (f.set (f.length - 1) [s, c], 50) := by unfold step; rw [if_neg h, if_pos h2]
theorem step_bl {f : List (List Nat)} {s c : Nat} (h : ¬ (f ≠ [] ∧ sortOf c = s ∧ (sortOf c = 97 ∨ sortOf c = 49))) (h2 : ¬ (isE s = true ∧ c = 61)) (h3 : isB c = true) : step (f, s) c = (f, sortOf c) := by unfold step; rw [if_neg h, if_neg h2, if_pos h3]
theorem step_els {f : List (List Nat)} {s c : Nat} (h : ¬ (f ≠ [] ∧ sortOf c = s ∧ (sortOf c = 97 ∨ sortOf c = 49))) (h2 : ¬ (isE s = true ∧ c = 61)) (h3 : isB c = false) : step (f, s) c = (f ++ [[c]], sortOf c) := by unfold step; rw [if_neg h, if_neg h2, h3]; rfl
/-- what stands behind i signs -/
structure Cst (i : Nat) (f : List (List Nat)) (s : Nat) : Prop where
  len : f.length ≤ i
  each : ∀ g ∈ f, g.length ≤ i + 2 ∧ ∀ c ∈ g, c < 256
  last : s < 256
  e : isE s = true → f ≠ []
theorem sort_lt {c : Nat} (h : c < 256) : sortOf c < 256 := by unfold sortOf; split; omega; split <;> omega
theorem sort_E {c : Nat} (h : isE (sortOf c) = true) : sortOf c = c := by
  unfold sortOf at h ⊢
  split
  · rename_i q
    rw [if_pos q] at h
    exact absurd h (by decide)
  · rename_i q
    rw [if_neg q] at h
    split
    · rename_i q2
      rw [if_pos q2] at h
      exact absurd h (by decide)
    · rfl
theorem Cst.next {i : Nat} {f : List (List Nat)} {s c : Nat} (h : Cst i f s) (hc : c < 256) : Cst (i + 1) (step (f, s) c).1 (step (f, s) c).2 := by
  by_cases h1 : f ≠ [] ∧ sortOf c = s ∧ (sortOf c = 97 ∨ sortOf c = 49)
  · rw [step_add h1]
    refine ⟨by simp [lastAdd]; have := h.len; omega, fun g hg => ?_, sort_lt hc, fun _ => ?_⟩
    · rcases List.mem_or_eq_of_mem_set hg with q | q
      · have := h.each g q
        exact ⟨by omega, this.2⟩
      · rw [q]
        have hl : f.getD (f.length - 1) [] ∈ f := by
          have : f.length - 1 < f.length := by have := List.length_pos_iff.mpr h1.1; omega
          simp only [List.getD, List.getElem?_eq_getElem this, Option.getD_some]
          exact List.getElem_mem _
        have := h.each _ hl
        refine ⟨by rw [List.length_append, List.length_singleton]; omega, fun d hd => ?_⟩
        rcases List.mem_append.mp hd with q | q
        · exact this.2 d q
        · simp at q; omega
    · intro z
      have := congrArg List.length z
      simp [lastAdd] at this
      exact h1.1 this
  · by_cases h2 : isE s = true ∧ c = 61
    · rw [step_two h1 h2]
      refine ⟨by simp; have := h.len; omega, fun g hg => ?_, by show 50 < 256; decide, fun z => absurd (show isE 50 = true from z) (by decide)⟩
      rcases List.mem_or_eq_of_mem_set hg with q | q
      · have := h.each g q
        exact ⟨by omega, this.2⟩
      · rw [q]
        refine ⟨by simp, fun d hd => ?_⟩
        have := h.last
        simp at hd
        omega
    · cases h3 : isB c with
      | true =>
        rw [step_bl h1 h2 h3]
        refine ⟨by have := h.len; show f.length ≤ i + 1; omega, fun g hg => ?_, sort_lt hc, fun z => ?_⟩
        · have := h.each g hg
          exact ⟨by omega, this.2⟩
        · have z1 : isE (sortOf c) = true := z
          have e := sort_E z1
          rw [e] at z1
          have := E_notB z1
          rw [h3] at this
          cases this
      | false =>
        rw [step_els h1 h2 h3]
        refine ⟨by simp; have := h.len; omega, fun g hg => ?_, sort_lt hc, fun _ => by simp⟩
        rcases List.mem_append.mp hg with q | q
        · have := h.each g q
          exact ⟨by omega, this.2⟩
        · simp at q
          rw [q]
          exact ⟨by simp, fun d hd => by simp at hd; omega⟩
theorem inV_two (a b s : Nat) : inV (.str (S [s])) [.str (S [a]), .str (S [b])] = (decide (s = a) || decide (s = b)) := by
  show ((S [a] == S [s]) || ((S [b] == S [s]) || false)) = _
  rw [S_beq, S_beq, Bool.eq_iff_iff]
  simp only [Bool.or_eq_true, decide_eq_true_eq, Bool.or_false, List.cons.injEq, and_true]
  omega
theorem inV_three (a b d s : Nat) : inV (.str (S [s])) [.str (S [a]), .str (S [b]), .str (S [d])] = (decide (s = a) || (decide (s = b) || decide (s = d))) := by
  show ((S [a] == S [s]) || ((S [b] == S [s]) || ((S [d] == S [s]) || false))) = _
  rw [S_beq, S_beq, S_beq, Bool.eq_iff_iff]
  simp only [Bool.or_eq_true, decide_eq_true_eq, Bool.or_false, List.cons.injEq, and_true]
  omega
theorem dp_strs {K : PySem.W.Frag} {H : Hp} {a : Addr} {f : List (List Nat)} (h : SqL K H a (f.map fun g => .str (S g))) : Dp K H (.ref a) (.list (f.map fun g => PyData.str (S g))) := .lst h (dpAll_map (fun g => .str (S g)) f)
theorem lay_strs : ∀ {f : List (List Nat)}, (∀ g ∈ f, ∀ c ∈ g, c < 256) → PyData.canLayAll0 (f.map fun g => PyData.str (S g)) = true
  | [], _ => by simp [PyData.canLayAll0]
  | g :: f, h => by
    rw [List.map_cons, PyData.canLayAll0, PyData.canLay0, strOk_S (fun c hc => by have := h g (by simp) c hc; omega), lay_strs fun g hg => h g (List.mem_cons_of_mem _ hg)]
    rfl
theorem shaped_strs {f : List (List Nat)} (h : ∀ g ∈ f, ∀ c ∈ g, c < 256) : SeqAt.shaped (.list (f.map fun g => PyData.str (S g))) = true := by
  have h1 : PyData.depthAll (f.map fun g => PyData.str (S g)) ≤ 0 := dep_map (fun _ => by simp [PyData.depth]) f
  have h3 : PyData.depth (.list (f.map fun g => PyData.str (S g))) ≤ 64 := by
    simp only [PyData.depth]
    omega
  show (PyData.canLay0 (.list (f.map fun g => PyData.str (S g))) && decide (PyData.depth (.list (f.map fun g => PyData.str (S g))) ≤ 64)) = true
  rw [Bool.and_eq_true]
  exact ⟨by simp only [PyData.canLay0]; exact lay_strs h, decide_eq_true h3⟩
def cut_else (K : PySem.W.Frag) : TS := (xIfS (xAnd (xB (tOp (aIn K) (xVar 2) (tTup (tCons (tC (.str "=")) (tCons (tC (.str "!")) (tCons (tC (.str "<")) tNil)))))) (xB (tOp (aEq K) (xVar 4) (tC (.str "="))))) (tSeq (tAsg (tOp (aAdd K) (xVar 2) (xVar 4)) (gSub (xVar 1) (tOp aSub (tCB (on1 (aLen K)) (tCons (xVar 1) tNil)) (tC (.int 1))) aSetL)) (tAsg (tC (.str "2")) (gName 5))) (xIfS (xB (tOp (aNot (aIn K)) (xVar 4) (tTup (tCons (tC (.str " ")) (tCons (tC (.str "\n")) tNil))))) (tDrop (xApp (xVar 1) (xVar 4))) tNext))
def cut_sort (K : PySem.W.Frag) : TE := (xIf (xB (tOp (aIn K) (xVar 4) (tC (.str "abcdefghijklmnopqrstuvwxyz")))) (tC (.str "a")) (xIf (xB (tOp (aIn K) (xVar 4) (tC (.str "0123456789")))) (tC (.str "1")) (xVar 4)))
theorem sort_val {K : PySem.W.Frag} {H : Hp} {Q : VK} {a b d e : Option V} {r : List (Option V)} {c : Nat} (q : Q (.str (S [sortOf c])) H) : cut_sort K (a :: b :: d :: e :: some (.str ⟨#[c]⟩) :: r) H Q := by
  refine ⟨c, rfl, ?_⟩
  rw [mem_let]
  unfold sortOf at q
  refine br_of (fun z => ?_) fun z => ?_
  · rw [if_pos z] at q
    exact q
  · rw [z, if_neg Bool.false_ne_true] at q
    refine ⟨c, rfl, ?_⟩
    rw [mem_fig]
    refine br_of (fun z => ?_) fun z => ?_
    · rw [if_pos z] at q
      exact q
    · rw [z, if_neg Bool.false_ne_true] at q
      exact q
theorem inV_a1 (s : Nat) : inV (.str (S [s])) [.str "a", .str "1"] = (decide (s = 97) || decide (s = 49)) := inV_two 97 49 s
theorem inV_eq (s : Nat) : inV (.str (S [s])) [.str "=", .str "!", .str "<"] = isE s := by
  have : inV (.str (S [s])) [.str "=", .str "!", .str "<"] = (decide (s = 61) || (decide (s = 33) || decide (s = 60))) := inV_three 61 33 60 s
  rw [this, Bool.eq_iff_iff]
  unfold isE
  simp only [Bool.or_eq_true, decide_eq_true_eq, beq_iff_eq]
  omega
theorem ixN_last {n : Nat} (h : 0 < n) : ixN n ((n : Int) - 1) = some (n - 1) := by
  unfold ixN
  rw [if_pos (by omega), if_pos (by omega)]
  congr 1
  omega
theorem p_cut_else {K : PySem.W.Frag} {H : Hp} {D : Ends} {p : Addr} {t r : Option V} {f : List (List Nat)} {s c i : Nat} (e1 : H p = some (.lst (f.map fun g => .str (S g)))) (hC : Cst i f s) (hi : i ≤ 8000) (hno : ¬ (f ≠ [] ∧ sortOf c = s ∧ (sortOf c = 97 ∨ sortOf c = 49)))
    (hD : ∀ H0 H1 f' s', step (f, s) c = (f', s') → Xt [] H H0 → H0 p = some (.lst (f.map fun g => .str (S g))) → H1 = H0 ∨ (∃ o, H1 = upd H0 p o) → H1 p = some (.lst (f'.map fun g => .str (S g))) → D.nx [t, some (.ref p), some (.str (S [s])), r, some (.str ⟨#[c]⟩), some (.str (S [s']))] H1) :
    cut_else K D [t, some (.ref p), some (.str (S [s])), r, some (.str ⟨#[c]⟩), some (.str (S [sortOf c]))] H := by
  have hb := big
  have hlen := hC.len
  refine ⟨Nat.le_trans (by simp) big, fun q hq => ⟨_, .inr (.of upd_same), rfl, rfl, ?_⟩⟩
  have x1 : Xt [] H (upd H q (.tup [.str "=", .str "!", .str "<"])) := .new hq
  have e2 := x1.get e1
  generalize upd H q (.tup [.str "=", .str "!", .str "<"]) = H1 at x1 e2
  rw [inV_eq]
  have rest : ¬ (isE s = true ∧ c = 61) → xIfS (xB (tOp (aNot (aIn K)) (xVar 4) (tTup (tCons (tC (.str " ")) (tCons (tC (.str "\n")) tNil))))) (tDrop (xApp (xVar 1) (xVar 4))) tNext D [t, some (.ref p), some (.str (S [s])), r, some (.str ⟨#[c]⟩), some (.str (S [sortOf c]))] H1 := by
    intro hn2
    refine ⟨Nat.le_trans (by simp) big, fun q hq => ⟨_, .inr (.of upd_same), rfl, rfl, ?_⟩⟩
    have x2 : Xt [] H (upd H1 q (.tup [.str " ", .str "\n"])) := x1.trans (.new hq)
    have e3 : upd H1 q (.tup [.str " ", .str "\n"]) p = some (.lst (f.map fun g => .str (S g))) := by rw [upd_ne (ne_of_none e2 hq)]; exact e2
    generalize upd H1 q (.tup [.str " ", .str "\n"]) = H2 at x2 e3
    rw [inV_blank]
    refine br_of (fun z => ?_) fun z => ?_
    · have hb : isB c = false := by simpa using z
      refine ⟨⟨_, e3⟩, _, e3, by rw [List.length_map]; omega, ?_⟩
      exact hD _ _ _ _ (step_els hno hn2 hb) x2 e3 (.inr ⟨_, rfl⟩) (by rw [upd_same, List.map_append]; rfl)
    · have hb : isB c = true := by simpa using z
      exact hD _ _ _ _ (step_bl hno hn2 hb) x2 e3 (.inl rfl) e3
  refine br_of (fun z => ?_) fun z => ?_
  · conv => whnf
    have e61 : ((⟨#[c]⟩ : Str) == Str.ofString "=") = decide (c = 61) := by
      have := S_beq [c] [61]
      rw [show decide ([c] = [61]) = decide (c = 61) by simp] at this
      exact this
    rw [e61]
    refine br_of (fun z2 => ?_) fun z2 => ?_
    · have h61 : c = 61 := of_decide_eq_true z2
      have hf := hC.e z
      have hpos : 0 < f.length := List.length_pos_iff.mpr hf
      refine ⟨by show 1 + 1 ≤ sizeLine; omega, ?_⟩
      refine ⟨_, .inl (.of e2), _, f.length - 1, e2, ?_, ?_⟩
      · rw [List.length_map]
        exact ixN_last hpos
      · refine hD _ _ _ _ (step_two hno ⟨z, h61⟩) x1 e2 (.inr ⟨_, rfl⟩) ?_
        rw [upd_same, List.map_set]
        rfl
    · exact rest fun w => of_decide_eq_false z2 w.2
  · exact rest fun w => by rw [z] at w; exact absurd w.1 Bool.false_ne_true
theorem p_law_cut {K : PySem.W.Frag} (vs : List V) (H : Hp) (Q : VK) (E : XK) (h : sp_law_cut K vs H Q E) : r_law_cut K E { nx := fun _ H' => Q .non H', rt := Q } (start N_law_cut vs) H := by
  obtain ⟨l, rfl, hl, hc, hQ⟩ := h
  have hb := big
  refine ⟨by decide, fun p hp => ?_⟩
  refine ⟨fun i σ H1 => i ≤ l.length ∧ Xt [] H H1 ∧ ∃ (f : List (List Nat)) (s : Nat) (r1 r2 r3 : Option V), σ = [some (.str (S l)), some (.ref p), some (.str (S [s])), r1, r2, r3] ∧ H1 p = some (.lst (f.map fun g => .str (S g))) ∧
    (l.take i).foldl step ([], 32) = (f, s) ∧ Cst i f s, ?_, ?_, ?_, ?_⟩
  · exact ⟨by omega, .new hp, [], 32, none, none, none, rfl, upd_same, rfl, by simp, fun g hg => absurd hg List.not_mem_nil, by decide, fun z => absurd z (by decide)⟩
  · intro i σ H1 _ _
    trivial
  · rintro i v σ H1 H2 hi ⟨_, x1, f, s, r1, r2, r3, rfl, e1, hfold, hC⟩ ⟨T, y1, y2, rfl, hT, rfl, z1, z2⟩
    have hil : i < l.length := hi
    obtain rfl : V.int (i : Nat) = y1 := Option.some.inj z1
    have z3 : some (V.str ⟨#[l[i]]⟩) = some y2 := by
      rw [← z2]
      show _ = Option.map _ (l.toArray)[i]?
      simp [hil]
    obtain rfl := Option.some.inj z3
    have hci := hc l[i] (List.getElem_mem hil)
    have hnext := hC.next hci
    have hfold2 : (l.take (i + 1)).foldl step ([], 32) = step (f, s) l[i] := by
      rw [List.take_succ_eq_append_getElem hil, List.foldl_append, hfold]
      rfl
    generalize l[i] = c at hci hnext hfold2
    have nT : p ≠ T := ne_of_none e1 hT
    have x2 : Xt [] H (upd H1 T (.tup [.int i, .str ⟨#[c]⟩])) := x1.trans (.new hT)
    have e2 : upd H1 T (.tup [.int i, .str ⟨#[c]⟩]) p = some (.lst (f.map fun g => .str (S g))) := by rw [upd_ne nT]; exact e1
    refine ⟨[.int i, .str ⟨#[c]⟩], .of upd_same, rfl, ?_⟩
    generalize upd H1 T (.tup [.int i, .str ⟨#[c]⟩]) = H2 at x2 e2
    have hlen := hC.len
    have fin : ∀ H0 H3 f' s', step (f, s) c = (f', s') → Xt [] H H0 → H0 p = some (.lst (f.map fun g => .str (S g))) → H3 = H0 ∨ (∃ o, H3 = upd H0 p o) → H3 p = some (.lst (f'.map fun g => .str (S g))) →
        i + 1 ≤ l.length ∧ Xt [] H H3 ∧ ∃ (f : List (List Nat)) (s : Nat) (r1 r2 r3 : Option V), [some (V.str (S l)), some (.ref p), some (.str (S [s'])), some (.int i), some (.str ⟨#[c]⟩), some (.str (S [s']))] = [some (.str (S l)), some (.ref p), some (.str (S [s])), r1, r2, r3] ∧ H3 p = some (.lst (f.map fun g => .str (S g))) ∧
          (l.take (i + 1)).foldl step ([], 32) = (f, s) ∧ Cst (i + 1) f s := by
      intro H0 H3 f' s' hs x3 e3 h3 e4
      refine ⟨by omega, ?_, f', s', _, _, _, rfl, e4, hfold2.trans hs, by rw [hs] at hnext; exact hnext⟩
      rcases h3 with rfl | ⟨o, rfl⟩
      · exact x3
      · exact x3.mut hp
    refine sort_val (K := K) ?_
    conv => whnf
    refine ⟨by decide, fun q hq => ?_⟩
    have x3 : Xt [] H2 (upd H2 q (.lst [])) := .new hq
    have e3 := x3.get e2
    have hsh := shaped_strs (f := f) fun g hg => (hC.each g hg).2
    refine aNe_dp (dp_strs (.of e3)) (dp_strs (f := []) (.of upd_same)) hsh (by decide) ?_
    have hem : PyData.eqv (.list (f.map fun g => PyData.str (S g))) (.list (([] : List (List Nat)).map fun g => PyData.str (S g))) = f.isEmpty := by
      rw [List.map_nil, PyData.eqv, eqvAll_nil]
      cases f <;> rfl
    rw [hem]
    generalize upd H2 q (.lst []) = H4 at x3 e3
    have els : ∀ (D : Ends) (H5 : Hp), (∀ H0 H1 f' s', step (f, s) c = (f', s') → Xt [] H5 H0 → H0 p = some (.lst (f.map fun g => .str (S g))) → H1 = H0 ∨ (∃ o, H1 = upd H0 p o) → H1 p = some (.lst (f'.map fun g => .str (S g))) → D.nx [some (.str (S l)), some (.ref p), some (.str (S [s])), some (.int i), some (.str ⟨#[c]⟩), some (.str (S [s']))] H1) →
        H5 p = some (.lst (f.map fun g => .str (S g))) → ¬ (f ≠ [] ∧ sortOf c = s ∧ (sortOf c = 97 ∨ sortOf c = 49)) → cut_else K D [some (.str (S l)), some (.ref p), some (.str (S [s])), some (.int i), some (.str ⟨#[c]⟩), some (.str (S [sortOf c]))] H5 :=
      fun D H5 hD e5 hno => p_cut_else e5 hC (by omega) hno hD
    refine br_of (fun z => ?_) fun z => ?_
    · have hf : f ≠ [] := fun w => by rw [w] at z; cases z
      conv => whnf
      rw [S_beq]
      refine br_of (fun z2 => ?_) fun z2 => ?_
      · have hs : sortOf c = s := by
          have := of_decide_eq_true z2
          exact (List.cons.inj this).1
        refine ⟨Nat.le_trans (by simp) big, fun q hq => ⟨_, .inr (.of upd_same), rfl, rfl, ?_⟩⟩
        have x5 : Xt [] H4 (upd H4 q (.tup [.str "a", .str "1"])) := .new hq
        have e5 := x5.get e3
        generalize upd H4 q (.tup [.str "a", .str "1"]) = H5 at x5 e5
        rw [inV_a1]
        refine br_of (fun z3 => ?_) fun z3 => ?_
        · have h3 : sortOf c = 97 ∨ sortOf c = 49 := by simpa using z3
          have hpos : 0 < f.length := List.length_pos_iff.mpr hf
          have hget : (f.map fun g => V.str (S g))[f.length - 1]? = some (.str (S (f.getD (f.length - 1) []))) := by
            have : f.length - 1 < f.length := by omega
            simp [this]
          have hin : f.getD (f.length - 1) [] ∈ f := by
            have : f.length - 1 < f.length := by omega
            simp only [List.getD, List.getElem?_eq_getElem this, Option.getD_some]
            exact List.getElem_mem _
          have hgl := (hC.each _ hin).1
          refine ⟨_, .inl (.of e5), ?_⟩
          rw [List.length_map]
          refine ⟨_, .inl (.of e5), .str (S (f.getD (f.length - 1) [])), ?_, ?_⟩
          · unfold atI
            rw [List.length_map, ixN_last hpos]
            exact hget
          refine ⟨?_, ?_⟩
          · rw [S_len]
            show _ + 1 ≤ sizeLine
            omega
          refine ⟨_, .inl (.of e5), _, f.length - 1, e5, ?_, ?_⟩
          · rw [List.length_map]
            exact ixN_last hpos
          · refine fin H5 _ (lastAdd f c) (sortOf c) (step_add ⟨hf, hs, h3⟩) ((x2.trans x3).trans x5) e5 (.inr ⟨_, rfl⟩) ?_
            rw [upd_same]
            unfold lastAdd
            rw [List.map_set, ← S_app]
            rfl
        · refine els _ H5 (fun H0 H1 f' s' hs x0 e0 h1 e1 => fin H0 H1 f' s' hs (((x2.trans x3).trans x5).trans x0) e0 h1 e1) e5 fun w => ?_
          have : ¬ (sortOf c = 97 ∨ sortOf c = 49) := by simpa using z3
          exact this w.2.2
      · refine els _ H4 (fun H0 H1 f' s' hs x0 e0 h1 e1 => fin H0 H1 f' s' hs ((x2.trans x3).trans x0) e0 h1 e1) e3 fun w => ?_
        exact of_decide_eq_false z2 (by rw [w.2.1])
    · refine els _ H4 (fun H0 H1 f' s' hs x0 e0 h1 e1 => fin H0 H1 f' s' hs ((x2.trans x3).trans x0) e0 h1 e1) e3 fun w => ?_
      have : f.isEmpty = true := by simpa using z
      exact w.1 (List.isEmpty_iff.mp this)
  · rintro σ H1 ⟨_, x1, f, s, r1, r2, r3, rfl, e1, hfold, hC⟩
    have hf : cut l = f := by
      unfold cut
      have : l.take (S l).cps.size = l := List.take_of_length_le (by show l.length ≤ l.length; omega)
      rw [this] at hfold
      rw [hfold]
    rw [hf] at hQ
    exact hQ p H1 x1 hp e1
end K01
set_option Elab.async false
set_option linter.all false
set_option maxRecDepth 100000
set_option maxHeartbeats 4000000
/-! K01P4: pieces; an error told. -/
namespace K01
open PySem PySem.Spec PyProof.Rows L2 He Wh LamX
def pieceOk : V → Bool
  | .str z => good z.cps.toList && decide (z.cps.toList.length ≤ 5)
  | _ => false
def pieces : List V := [.str "a", .str "cell", .str "x", .str "on", .str "while", .str "0", .str "17", .str "007", .str "==", .str "!=", .str "<=", .str "<", .str "=", .str "+", .str "-", .str "*", .str "/", .str "(", .str ")", .str "{", .str "}", .str "[", .str "]", .str ","] ++ [.str " ", .str "\n", .str "  "]
theorem pieces_ok : pieces.all pieceOk = true := by decide +kernel
theorem p_law_piece {K : PySem.W.Frag} (vs : List V) (H : Hp) (Q : VK) (E : XK) (h : sp_law_piece K vs H Q E) : r_law_piece K E { nx := fun _ H' => Q .non H', rt := Q } (start N_law_piece vs) H := by
  obtain ⟨b, rfl, hB, hQ⟩ := h
  refine ⟨Nat.le_trans (by simp) big, fun p hp => ?_⟩
  refine ⟨Nat.le_trans (by simp) big, fun q hq => ?_⟩
  have x1 := hB.new (o := .lst [.str "a", .str "cell", .str "x", .str "on", .str "while", .str "0", .str "17", .str "007", .str "==", .str "!=", .str "<=", .str "<", .str "=", .str "+", .str "-", .str "*", .str "/", .str "(", .str ")", .str "{", .str "}", .str "[", .str "]", .str ","]) hp
  have npq := ne_of_none (o := .lst [.str "a", .str "cell", .str "x", .str "on", .str "while", .str "0", .str "17", .str "007", .str "==", .str "!=", .str "<=", .str "<", .str "=", .str "+", .str "-", .str "*", .str "/", .str "(", .str ")", .str "{", .str "}", .str "[", .str "]", .str ","]) upd_same hq
  refine .inl ⟨_, _, by rw [upd_ne npq, upd_same], upd_same, Nat.le_trans (by simp) big, fun r hr => ?_⟩
  have x2 := (x1.new hq (o := .lst [.str " ", .str "\n", .str "  "])).new hr (o := .lst pieces)
  have nb : r ≠ b := fun e => by
    obtain ⟨xs, hxs⟩ := (x1.new hq (o := .lst [.str " ", .str "\n", .str "  "])).there
    rw [← e] at hxs
    rw [hxs] at hr
    cases hr
  refine ⟨b, r, pieces, rfl, nb, .inl (.of upd_same), by decide, by decide, x2, fun v H' hv x hB' => ?_⟩
  have := List.all_eq_true.mp pieces_ok v hv
  cases v with
  | str z =>
    have h2 : (good z.cps.toList && decide (z.cps.toList.length ≤ 5)) = true := this
    rw [Bool.and_eq_true] at h2
    have := hQ z.cps.toList H' h2.1 (of_decide_eq_true h2.2) ((((Xt.new hp).trans (.new hq)).trans (.new hr)).any.trans x) hB'
    rw [S_of] at this
    exact this
  | _ => cases this
/-- what comes of a call within the try -/
def tt_law_error (K : PySem.W.Frag) : (XK → Hp → VK → Prop) → Hp → VK → Prop := fun tl H Q =>
  tl (fun cls d H' => cls = .ref (ga K "InvalidText") ∧ ∃ (dd : Addr) (a b : V), d = some dd ∧ H' dd = some (.xd [("why", b), ("at", a)]) ∧ ∀ p, H' p = none → Q (.ref p) (upd H' p (.tup [.str "text", a, b]))) H
    fun _ H' => ([V.str "told"] : List V).length ≤ sizeLine ∧ ∀ p, H' p = none → Q (.ref p) (upd H' p (.tup [.str "told"]))
def N_law_error : List Str := ["call", "e"]
theorem sc_law_error : FnScope N_law_error ["call"] (defScope s_law_error) := ⟨rfl, rfl, rfl, by decide +kernel, rfl, by decide +kernel, by decide +kernel⟩
theorem takes_len {X : Cx} {W : WX} {n : Nat} (t : Takes X W) (hn : X.N.length = n := by rfl) : Takes X (fun c d σ H => σ.length = n → W c d σ H) := fun u s' ⟨a, B, sI, pins, σ, H, cls, d, e, I, nb, up, sky, na, os, ag, w⟩ => t u s' ⟨a, B, sI, pins, σ, H, cls, d, e, I, nb, up, sky, na, os, ag, w (I.len.trans hn)⟩
theorem len2 {α : Type} : ∀ {l : List α}, l.length = 2 → ∃ a b, l = [a, b]
  | [a, b], _ => ⟨a, b, rfl⟩
theorem gives_error {P : Program} {w : World} {K : PySem.W.Frag} {mg : Str → Option Value} {base : Heap} (G : Gs P K mg) (hno1 : PySem.W.findIn K (.ref (ga K "InvalidText")) "at" = some none) (hno2 : PySem.W.findIn K (.ref (ga K "InvalidText")) "why" = some none)
    {g : Addr} {cdv : Value} {q : Str} (X : Cx) (e1 : X.prog = P) (e2 : X.w = w) (e3 : X.K = K) (e4 : X.mg = mg) (e5 : X.base = base) : GivesTo X N_law_error "_law_error" (defScope s_law_error) g cdv (defBody s_law_error) "call" q (tt_law_error K) := by
  subst e1 e2 e3 e4 e5
  intro f c' s H Q tl act hc h
  obtain ⟨_, _, _, _, _, _, _, _, _, _, _, _, _, _, _, hm⟩ := G.e_InvalidText.ex
  refine ⟨_, pss_cons (ps_try_as (X := (cxOf C8.CX0 X.prog X.w X.K X.mg X.base N_law_error "_law_error" (defScope s_law_error) g cdv X.A X.stack s H C8.E0).nox) (i := 1) (c := .ref (ga X.K "InvalidText")) (Wout := fun _ _ _ _ => False)
      (tb := fun W D σ H => ∃ Ech : XK, (∀ cls d σ' H', Ech cls d H' → σ'.length = 2 → W cls d σ' H') ∧ σ[0]? = some (some (.ref f)) ∧ H c' = some (CodeO c' q) ∧ tl Ech H fun _ H1 => D.nx σ H1)
      (ts := fun a cls d => tRet (tTup (tCons (tC (.str "text")) (tCons (tXf a cls d (ga X.K "InvalidText") "at" (tVar 1)) (tCons (tXf a cls d (ga X.K "InvalidText") "why" (tVar 1)) tNil)))))
      rfl rfl sc_law_error.nd rfl rfl ⟨rfl, by decide, .inl hm⟩ takes0 (fun W pn xe tk _ => ?_) (fun a oe cls d pn hz hf => ?_)) (pss_one (ps_ret (pe_tup (pa_cons pe_str pa_nil)))), ?_⟩
  · refine ⟨fun pins s' σ H' D I h' => ?_⟩
    obtain ⟨Ech, hW, h1, h2, h3⟩ := h'
    exact (pss_one (ps_expr (act _ pn xe Ech _ _ (takes_len (n := 2) tk) hW))).run pins s' σ H' D I ⟨h1, h2, h3⟩
  · exact pss_one (ps_ret (pe_tup (pa_cons pe_str (pa_cons (pe_xf G.f_InvalidText hno1 hz hf (pv 1)) (pa_cons (pe_xf G.f_InvalidText hno2 hz hf (pv 1)) pa_nil)))))
  · refine ⟨fun cls d H' => cls = .ref (ga X.K "InvalidText") ∧ ∃ (dd : Addr) (a b : V), d = some dd ∧ H' dd = some (.xd [("why", b), ("at", a)]) ∧ ∀ p, H' p = none → Q (.ref p) (upd H' p (.tup [.str "text", a, b])), ?_, rfl, hc, ?_⟩
    · rintro cls d σ' H' ⟨rfl, dd, a, b, rfl, e1, hq⟩ hl
      obtain ⟨y1, y2, rfl⟩ := len2 hl
      refine ⟨true, G.x_InvalidText_InvalidText, fun _ r hr => ?_, fun z => absurd z (by decide)⟩
      exact ⟨_, rfl, rfl, rfl, dd, _, a, rfl, e1, rfl, ⟨_, rfl, rfl, rfl, dd, _, b, rfl, e1, rfl, Nat.le_trans (by simp) big, fun p hp => hq p hp⟩⟩
    · exact h
end K01
set_option Elab.async false
set_option linter.all false
set_option maxRecDepth 100000
set_option maxHeartbeats 4000000
namespace K01
open PySem PySem.Spec PyProof.Rows L2 He Wh
/-! ### law -/
def N_law : List Str := ["script", "box", "turn", "text", "ask", "cut", "wrong", "value", "many", "due"]
theorem sc_law : FnScope N_law ["script"] (defScope s_law) := ⟨rfl, rfl, rfl, by decide +kernel, rfl, by decide +kernel, by decide +kernel⟩
def r_law (K : PySem.W.Frag) (T : List (Addr × Str)) (E : XK) : TS := (tSeq (tAsg (xCall (sp_law_box K) E (tCons (xVar 0) tNil)) (gName 1)) (tSeq (xFor (kRng1 (tC (.int 4))) (gName 2) (tSeq (tAsg (tC (.str "")) (gName 3)) (tSeq (xFor (kRng1 (xCall (sp_law_take K) E (tCons (xVar 1) (tCons (tC (.int 40)) tNil)))) (gName 4) (tAsg (tOp (aAdd K) (tOp (aAdd K) (xVar 3) (xCall (sp_law_piece K) E (tCons (xVar 1) tNil))) (xCall (sp_law_pick K) E (tCons (xVar 1) (tCons (tLst (tCons (tC (.str "")) (tCons (tC (.str " ")) tNil))) tNil)))) (gName 3))) (tSeq (tAsg (xCall (sp_law_cut K) E (tCons (xVar 3) tNil)) (gName 5)) (tSeq (xIfS (xOr (tNot (xTru K (xCall (sp_law_is K) E (tCons (xCall (sp_groups K) E (tCons (xVar 3) tNil)) (tCons (tCB (on1 (aTupOf K)) (tCons (xVar 5) tNil)) tNil))))) (tNot (xTru K (xCall (sp_law_is K) E (tCons (xCall (sp_groups K) E (tCons (xJoin K (tC (.str " ")) (xVar 5)) tNil)) (tCons (tCB (on1 (aTupOf K)) (tCons (xVar 5) tNil)) tNil)))))) (tRet (tC (.bl false))) tNext) (tSeq (tAsg (xCall (sp_law_pick K) E (tCons (xVar 1) (tCons (tLst (tCons (tC (.str "!")) (tCons (tC (.str "&")) (tCons (tC (.str "#")) (tCons (tC (.str "A")) (tCons (tC (.str ";")) (tCons (tC (.str "'")) (tCons (tC (.str "?")) (tCons (tC (.str ":")) (tCons (tC (.str "\t")) (tCons (tC (.str "!!")) (tCons (tC (.str "_")) (tCons (tC (.str "Z")) (tCons (tC (.str ".")) (tCons (tC (.str "$")) (tCons (tC (.str "~")) (tCons (tC (.str ">")) tNil))))))))))))))))) tNil))) (gName 6)) (tSeq (xIfS (xB (tOp (aNot (aEq K)) (LamX.tLam T (tt_law_error K) fun E => (xCall (sp_groups K) E (tCons (tOp (aAdd K) (tOp (aAdd K) (tOp (aAdd K) (tOp (aAdd K) (xVar 3) (tC (.str " "))) (xVar 6)) (tC (.str " "))) (xVar 3)) tNil))) (tTup (tCons (tC (.str "text")) (tCons (tCB (on1 (aLen K)) (tCons (xVar 5) tNil)) (tCons (tC (.int 1)) tNil)))))) (tRet (tC (.bl false))) tNext) (xIfS (tNot (xTru K (xCall (sp_law_is K) E (tCons (xCall (sp_groups K) E (tCons (tOp (aAdd K) (tOp (aAdd K) (xVar 3) (tC (.str "\n"))) (xVar 3)) tNil)) (tCons (tCB (on1 (aTupOf K)) (tCons (tOp (aAdd K) (xVar 5) (xVar 5)) tNil)) tNil))))) (tRet (tC (.bl false))) tNext)))))))) (tSeq (xFor (kAny K (tLst (tCons (tC .non) (tCons (tC (.int 3)) (tCons (tTup tNil) (tCons (tLst (tCons (tC (.str "a")) tNil)) (tCons (tC (.bl true)) (tCons (tOp aMul (tC (.str "a")) (tC (.int 8001))) tNil)))))))) (gName 7) (xIfS (xB (tOp (aNot (aEq K)) (LamX.tLam T (tt_law_error K) fun E => (xCall (sp_groups K) E (tCons (xVar 7) tNil))) (tTup (tCons (tC (.str "text")) (tCons (tUn aNeg (tC (.int 1))) (tCons (tC (.int 0)) tNil)))))) (tRet (tC (.bl false))) tNext)) (tSeq (tAsg (tOp (aAdd K) (tC (.int 1998)) (xCall (sp_law_take K) E (tCons (xVar 1) (tCons (tC (.int 5)) tNil)))) (gName 8)) (tSeq (tAsg (xIf (xB (tOp (aCmp fun i j => decide (j < i)) (xVar 8) (tC (.int 2000)))) (tTup (tCons (tC (.str "text")) (tCons (tC (.int 2000)) (tCons (tC (.int 2)) tNil)))) (tTup (tCons (tC (.str "told")) tNil))) (gName 9)) (tSeq (xIfS (xB (tOp (aNot (aEq K)) (LamX.tLam T (tt_law_error K) fun E => (xCall (sp_groups K) E (tCons (tOp aMul (tC (.str "a ")) (xVar 8)) tNil))) (xVar 9))) (tRet (tC (.bl false))) tNext) (tSeq (xIfS (xB (tOp (aNot (aEq K)) (LamX.tLam T (tt_law_error K) fun E => (xCall (sp_groups K) E (tCons (tOp (aAdd K) (tOp aMul (tC (.str ",")) (xVar 8)) (tC (.str " a"))) tNil))) (xIf (xB (tOp (aCmp fun i j => decide (i < j)) (xVar 8) (tC (.int 2000)))) (tTup (tCons (tC (.str "told")) tNil)) (tTup (tCons (tC (.str "text")) (tCons (tC (.int 2000)) (tCons (tC (.int 2)) tNil))))))) (tRet (tC (.bl false))) tNext) (tSeq (xIfS (xB (tOp (aNot (aEq K)) (LamX.tLam T (tt_law_error K) fun E => (xCall (sp_groups K) E (tCons (tOp (aAdd K) (tOp aMul (tC (.str "+")) (xVar 8)) (tC (.str "?"))) tNil))) (xIf (xB (tOp (aCmp fun i j => decide (i ≤ j)) (xVar 8) (tC (.int 2000)))) (tTup (tCons (tC (.str "text")) (tCons (xVar 8) (tCons (tC (.int 1)) tNil)))) (tTup (tCons (tC (.str "text")) (tCons (tC (.int 2000)) (tCons (tC (.int 2)) tNil))))))) (tRet (tC (.bl false))) tNext) (tSeq (xIfS (xOr (tNot (xTru K (xCall (sp_law_is K) E (tCons (xCall (sp_groups K) E (tCons (tOp aMul (tC (.str "a")) (tC (.int 8000))) tNil)) (tCons (tTup (tCons (tOp aMul (tC (.str "a")) (tC (.int 8000))) tNil)) tNil))))) (tNot (xTru K (xCall (sp_law_is K) E (tCons (xCall (sp_groups K) E (tCons (tOp aMul (tC (.str " ")) (tC (.int 8000))) tNil)) (tCons (tTup tNil) tNil)))))) (tRet (tC (.bl false))) tNext) (tRet (xAndV K (xCall (sp_law_is K) E (tCons (xCall (sp_groups K) E (tCons (tC (.str "a<=b==-1")) tNil)) (tCons (tTup (tCons (tC (.str "a")) (tCons (tC (.str "<=")) (tCons (tC (.str "b")) (tCons (tC (.str "==")) (tCons (tC (.str "-")) (tCons (tC (.str "1")) tNil))))))) tNil))) (xCall (sp_law_is K) E (tCons (xCall (sp_groups K) E (tCons (tC (.str "1a a1 ===")) tNil)) (tCons (tTup (tCons (tC (.str "1")) (tCons (tC (.str "a")) (tCons (tC (.str "a")) (tCons (tC (.str "1")) (tCons (tC (.str "==")) (tCons (tC (.str "=")) tNil))))))) tNil))))))))))))))
theorem w_law {P : Program} {w : World} {K : PySem.W.Frag} {mg : Str → Option Value} {base : Heap} (G : Gs P K mg) (c_groups : Cal P w K mg base 3 "groups" ["text"] (sp_groups K)) (c_law_box : Cal P w K mg base 1 "_law_box" ["script"] (sp_law_box K)) (c_law_take : Cal P w K mg base 1 "_law_take" ["box", "many"] (sp_law_take K)) (c_law_pick : Cal P w K mg base 2 "_law_pick" ["box", "some"] (sp_law_pick K)) (c_law_is : Cal P w K mg base 41 "_law_is" ["told", "due"] (sp_law_is K)) (c_law_cut : Cal P w K mg base 1 "_law_cut" ["text"] (sp_law_cut K)) (c_law_piece : Cal P w K mg base 3 "_law_piece" ["box"] (sp_law_piece K)) {T : List (Addr × Str)} {c Pt : Addr} (LF : LamF P w K mg base T "_law_error" "call" c Pt ((("law" : Str) ++ ".<locals>.") ++ "<lambda>") (tt_law_error K)) {f : Addr} {A : Around} {outer : List Env} {s : Shared} {H : Hp} {E : XK} (hr : Room 41 (A.deeper (envOfC "law" (defScope s_law) s.heap.objs.size f (.ref c)))) :
    PSs (cxOf (L2.CX P w) P w K mg base N_law "law" (defScope s_law) f (.ref c) A outer s H E) (defBody s_law) (r_law K T E) :=
  (pss_cons (xs_set (i := 1) sc_law.nd (xe_call (c_law_box.up (by decide)) hr (takes_of rfl rfl rfl rfl) (pa_cons (xv 0) pa_nil))) (pss_cons (xs_for (passes_of rfl) rfl (xk_rng1 rfl G.b_range pe_int) (xg_nm (i := 2) sc_law.nd) (pss_cons (xs_set (i := 3) sc_law.nd pe_str) (pss_cons (xs_for (passes_of rfl) rfl (xk_rng1 rfl G.b_range (xe_call (c_law_take.up (by decide)) hr (takes_of rfl rfl rfl rfl) (pa_cons (xv 1) (pa_cons pe_int pa_nil)))) (xg_nm (i := 4) sc_law.nd) (pss_one (xs_set (i := 3) sc_law.nd (pe_op xo_add (pe_op xo_add (xv 3) (xe_call (c_law_piece.up (by decide)) hr (takes_of rfl rfl rfl rfl) (pa_cons (xv 1) pa_nil))) (xe_call (c_law_pick.up (by decide)) hr (takes_of rfl rfl rfl rfl) (pa_cons (xv 1) (pa_cons (pe_lst (pa_cons pe_str (pa_cons pe_str pa_nil))) pa_nil))))))) (pss_cons (xs_set (i := 5) sc_law.nd (xe_call (c_law_cut.up (by decide)) hr (takes_of rfl rfl rfl rfl) (pa_cons (xv 3) pa_nil))) (pss_cons (xs_if (xw_or (pt_not (xt_tru (xe_call c_law_is hr (takes_of rfl rfl rfl rfl) (pa_cons (xe_call (c_groups.up (by decide)) hr (takes_of rfl rfl rfl rfl) (pa_cons (xv 3) pa_nil)) (pa_cons (xe_ct xc_tup G.b_tuple bb_tuple (pa_cons (xv 5) pa_nil)) pa_nil))))) (pw_or1 (pt_not (xt_tru (xe_call c_law_is hr (takes_of rfl rfl rfl rfl) (pa_cons (xe_call (c_groups.up (by decide)) hr (takes_of rfl rfl rfl rfl) (pa_cons (pe_joi pe_str (xv 5)) pa_nil)) (pa_cons (xe_ct xc_tup G.b_tuple bb_tuple (pa_cons (xv 5) pa_nil)) pa_nil))))))).pt (pss_one (ps_ret pe_bl)) pss_nil) (pss_cons (xs_set (i := 6) sc_law.nd (xe_call (c_law_pick.up (by decide)) hr (takes_of rfl rfl rfl rfl) (pa_cons (xv 1) (pa_cons (pe_lst (pa_cons pe_str (pa_cons pe_str (pa_cons pe_str (pa_cons pe_str (pa_cons pe_str (pa_cons pe_str (pa_cons pe_str (pa_cons pe_str (pa_cons pe_str (pa_cons pe_str (pa_cons pe_str (pa_cons pe_str (pa_cons pe_str (pa_cons pe_str (pa_cons pe_str (pa_cons pe_str pa_nil))))))))))))))))) pa_nil)))) (pss_cons (xs_if (xt_cmp (xo_ne hr.units) (xe_lam (k := 39) LF rfl rfl hr (LamX.lamS_by (sc := defScope s_law) (by decide +kernel)) fun A outer s H E f c2 hr2 => (xe_call (c_groups.up (by decide)) hr2 (takes_of rfl rfl rfl rfl) (pa_cons (pe_op xo_add (pe_op xo_add (pe_op xo_add (pe_op xo_add (xv 3) pe_str) (xv 6)) pe_str) (xv 3)) pa_nil))) (pe_tup (pa_cons pe_str (pa_cons (xe_cb xc_len G.b_len bb_len (pa_cons (xv 5) pa_nil)) (pa_cons pe_int pa_nil))))) (pss_one (ps_ret pe_bl)) pss_nil) (pss_one (xs_if (pt_not (xt_tru (xe_call c_law_is hr (takes_of rfl rfl rfl rfl) (pa_cons (xe_call (c_groups.up (by decide)) hr (takes_of rfl rfl rfl rfl) (pa_cons (pe_op xo_add (pe_op xo_add (xv 3) pe_str) (xv 3)) pa_nil)) (pa_cons (xe_ct xc_tup G.b_tuple bb_tuple (pa_cons (pe_op xo_add (xv 5) (xv 5)) pa_nil)) pa_nil))))) (pss_one (ps_ret pe_bl)) pss_nil))))))))) (pss_cons (xs_for (passes_of rfl) rfl (xk_any (pe_lst (pa_cons pe_non (pa_cons pe_int (pa_cons (pe_tup pa_nil) (pa_cons (pe_lst (pa_cons pe_str pa_nil)) (pa_cons pe_bl (pa_cons (pe_op xo_mul pe_str pe_int) pa_nil)))))))) (xg_nm (i := 7) sc_law.nd) (pss_one (xs_if (xt_cmp (xo_ne hr.units) (xe_lam (k := 39) LF rfl rfl hr (LamX.lamS_by (sc := defScope s_law) (by decide +kernel)) fun A outer s H E f c2 hr2 => (xe_call (c_groups.up (by decide)) hr2 (takes_of rfl rfl rfl rfl) (pa_cons (xv 7) pa_nil))) (pe_tup (pa_cons pe_str (pa_cons (pe_un xo_neg pe_int) (pa_cons pe_int pa_nil))))) (pss_one (ps_ret pe_bl)) pss_nil))) (pss_cons (xs_set (i := 8) sc_law.nd (pe_op xo_add pe_int (xe_call (c_law_take.up (by decide)) hr (takes_of rfl rfl rfl rfl) (pa_cons (xv 1) (pa_cons pe_int pa_nil))))) (pss_cons (xs_set (i := 9) sc_law.nd (xe_if (xt_cmp xo_gt (xv 8) pe_int) (pe_tup (pa_cons pe_str (pa_cons pe_int (pa_cons pe_int pa_nil)))) (pe_tup (pa_cons pe_str pa_nil)))) (pss_cons (xs_if (xt_cmp (xo_ne hr.units) (xe_lam (k := 39) LF rfl rfl hr (LamX.lamS_by (sc := defScope s_law) (by decide +kernel)) fun A outer s H E f c2 hr2 => (xe_call (c_groups.up (by decide)) hr2 (takes_of rfl rfl rfl rfl) (pa_cons (pe_op xo_mul pe_str (xv 8)) pa_nil))) (xv 9)) (pss_one (ps_ret pe_bl)) pss_nil) (pss_cons (xs_if (xt_cmp (xo_ne hr.units) (xe_lam (k := 39) LF rfl rfl hr (LamX.lamS_by (sc := defScope s_law) (by decide +kernel)) fun A outer s H E f c2 hr2 => (xe_call (c_groups.up (by decide)) hr2 (takes_of rfl rfl rfl rfl) (pa_cons (pe_op xo_add (pe_op xo_mul pe_str (xv 8)) pe_str) pa_nil))) (xe_if (xt_cmp xo_lt (xv 8) pe_int) (pe_tup (pa_cons pe_str pa_nil)) (pe_tup (pa_cons pe_str (pa_cons pe_int (pa_cons pe_int pa_nil)))))) (pss_one (ps_ret pe_bl)) pss_nil) (pss_cons (xs_if (xt_cmp (xo_ne hr.units) (xe_lam (k := 39) LF rfl rfl hr (LamX.lamS_by (sc := defScope s_law) (by decide +kernel)) fun A outer s H E f c2 hr2 => (xe_call (c_groups.up (by decide)) hr2 (takes_of rfl rfl rfl rfl) (pa_cons (pe_op xo_add (pe_op xo_mul pe_str (xv 8)) pe_str) pa_nil))) (xe_if (xt_cmp xo_le (xv 8) pe_int) (pe_tup (pa_cons pe_str (pa_cons (xv 8) (pa_cons pe_int pa_nil)))) (pe_tup (pa_cons pe_str (pa_cons pe_int (pa_cons pe_int pa_nil)))))) (pss_one (ps_ret pe_bl)) pss_nil) (pss_cons (xs_if (xw_or (pt_not (xt_tru (xe_call c_law_is hr (takes_of rfl rfl rfl rfl) (pa_cons (xe_call (c_groups.up (by decide)) hr (takes_of rfl rfl rfl rfl) (pa_cons (pe_op xo_mul pe_str pe_int) pa_nil)) (pa_cons (pe_tup (pa_cons (pe_op xo_mul pe_str pe_int) pa_nil)) pa_nil))))) (pw_or1 (pt_not (xt_tru (xe_call c_law_is hr (takes_of rfl rfl rfl rfl) (pa_cons (xe_call (c_groups.up (by decide)) hr (takes_of rfl rfl rfl rfl) (pa_cons (pe_op xo_mul pe_str pe_int) pa_nil)) (pa_cons (pe_tup pa_nil) pa_nil))))))).pt (pss_one (ps_ret pe_bl)) pss_nil) (pss_one (ps_ret (xe_and (xe_call c_law_is hr (takes_of rfl rfl rfl rfl) (pa_cons (xe_call (c_groups.up (by decide)) hr (takes_of rfl rfl rfl rfl) (pa_cons pe_str pa_nil)) (pa_cons (pe_tup (pa_cons pe_str (pa_cons pe_str (pa_cons pe_str (pa_cons pe_str (pa_cons pe_str (pa_cons pe_str pa_nil))))))) pa_nil))) (pe_one (xe_call c_law_is hr (takes_of rfl rfl rfl rfl) (pa_cons (xe_call (c_groups.up (by decide)) hr (takes_of rfl rfl rfl rfl) (pa_cons pe_str pa_nil)) (pa_cons (pe_tup (pa_cons pe_str (pa_cons pe_str (pa_cons pe_str (pa_cons pe_str (pa_cons pe_str (pa_cons pe_str pa_nil))))))) pa_nil))))))))))))))))
end K01
set_option Elab.async false
set_option linter.all false
set_option maxRecDepth 100000
set_option maxHeartbeats 4000000
/-! K01P5: what the law asks of each call. -/
namespace K01
open PySem PySem.Spec PyProof.Rows L2 He Wh LamX
theorem ext_xt {H H' : Hp} (x : Xt [] H H') : ExtN H H' := fun b o e _ => x.get e
theorem Xt.all {H H' : Hp} (x : Xt [] H H') : ∀ b o, H b = some o → H' b = some o := fun _ _ e => x.get e
theorem tabs_box {T : List (Addr × Str)} {H H' : Hp} {b : Addr} {xs : List V} (t : Tabs T H) (x : Xt [b] H H') (hb : H b = some (.lst xs)) : Tabs T H' := fun p hp => by
  obtain ⟨ps, h1, h2, h3⟩ := t p hp
  have k : ∀ a o, H a = some o → o ≠ .lst xs → H' a = some o := fun a o e n => x.keep a o (by
    intro z
    rw [List.mem_singleton.mp z, hb] at e
    exact n (Option.some.inj e).symm) e
  refine ⟨ps, k _ _ h1 (fun z => by cases z), h2, fun pos cv hc => ?_⟩
  obtain ⟨c, e1, e2⟩ := h3 pos cv hc
  exact ⟨c, e1, k _ _ e2 (fun z => by unfold CodeO at z; cases z)⟩
theorem Box.extN {H H' : Hp} {b : Addr} (h : Box H b) (x : ExtN H H') : Box H' b := by
  obtain ⟨a, rest, s, h1, h2, h3⟩ := h
  exact ⟨a, rest, s, x _ _ h1 (fun _ z => by cases z), x _ _ h2 (fun _ z => by cases z), h3⟩
/-- an answer, told -/
def ansV : Except (Int × Int) (List (List Nat)) → List V
  | .ok _ => [.str "told"]
  | .error (a, b) => [.str "text", .int a, .int b]
def ansD : Except (Int × Int) (List (List Nat)) → List PyData
  | .ok _ => [.str "told"]
  | .error (a, b) => [.str "text", .int a, .int b]
theorem ans_dp {K : PySem.W.Frag} {H : Hp} : ∀ r, DpAll K H (ansV r) (ansD r)
  | .ok _ => .cons (.str _) .nil
  | .error (a, b) => .cons (.str _) (.cons (.int a) (.cons (.int b) .nil))
theorem ok_told : PyData.strOk (Str.ofString "told") = true := by decide +kernel
theorem ok_text : PyData.strOk (Str.ofString "text") = true := by decide +kernel
theorem ans_lay : ∀ r, PyData.canLay0 (.tuple (ansD r)) = true
  | .ok _ => by simp [ansD, PyData.canLay0, PyData.canLayAll0, ok_told]
  | .error (a, b) => by simp [ansD, PyData.canLay0, PyData.canLayAll0, ok_text]
theorem ans_shaped (r) : SeqAt.shaped (.tuple (ansD r)) = true := by
  unfold SeqAt.shaped
  rw [ans_lay]
  rcases r with ⟨a, b⟩ | g <;> simp [ansD, PyData.depth, PyData.depthAll]
theorem lam_err {K : PySem.W.Frag} {T : List (Addr × Str)} {te : TE} {σ : L2.St} {H : Hp} {Q : VK} (hT : Tabs T H)
    (h : ∀ H1, ExtN H H1 → Tabs T H1 → ∃ v r, (∀ Q : VK, Q v H1 → te σ H1 Q) ∧ Asked K H1 v r ∧ ∀ p H3, ExtN H H3 → Tabs T H3 → H3 p = some (.tup (ansV r)) → Q (.ref p) H3) :
    LamX.tLam T (tt_law_error K) (fun E => xCall (sp_groups K) E (tCons te tNil)) σ H Q := by
  refine ⟨hT, fun H1 e1 T1 => ?_⟩
  obtain ⟨v, r, hv, hA, hQ⟩ := h H1 e1 T1
  refine hv _ ⟨v, r, rfl, hA, ?_⟩
  cases r with
  | ok g =>
    intro p H2 x2 _ _
    refine ⟨Nat.le_trans (by simp) big, fun p2 hp2 => ?_⟩
    have x3 : Xt [] H1 (upd H2 p2 (.tup [.str "told"])) := x2.trans (.new hp2)
    exact hQ p2 _ (e1.trans (ext_xt x3)) (T1.ext (Xt.all x3)) upd_same
  | error ab =>
    obtain ⟨a, b⟩ := ab
    intro d H2 x2 e2
    refine ⟨rfl, d, .int a, .int b, rfl, e2, fun p2 hp2 => ?_⟩
    have x3 : Xt [] H1 (upd H2 p2 (.tup [.str "text", .int a, .int b])) := x2.trans (.new hp2)
    exact hQ p2 _ (e1.trans (ext_xt x3)) (T1.ext (Xt.all x3)) upd_same
theorem lawIs_strs (g : List (List Nat)) : lawIs (.tuple (g.map fun l => .str (S l))) (.tuple (g.map fun l => .str (S l))) = true := by
  rw [lawIs]
  induction g with
  | nil => simp [lawAll]
  | cons a g ih =>
    rw [List.map_cons, lawAll, lawIs, ih]
    simp
theorem dep_strs (g : List (List Nat)) : PyData.depth (.tuple (g.map fun l => PyData.str (S l))) ≤ 1 := by
  have : PyData.depthAll (g.map fun l => PyData.str (S l)) ≤ 0 := dep_map (fun _ => by simp [PyData.depth]) g
  simp only [PyData.depth]
  omega
theorem dp_tups {K : PySem.W.Frag} {H : Hp} {a : Addr} {g : List (List Nat)} (h : SqT K H a (g.map fun l => .str (S l))) : Dp K H (.ref a) (.tuple (g.map fun l => PyData.str (S l))) := .tup h (dpAll_map (fun l => .str (S l)) g)
theorem is_groups {K : PySem.W.Frag} {E : XK} {σ : L2.St} {H : Hp} {te tb : TE} {Q : VK} {l : List Nat} {g : List (List Nat)} (hT : T l = (g, false)) (hl : l.length ≤ 8000) (hg : g.length ≤ 2000) (hv : ∀ Q : VK, Q (.str (S l)) H → te σ H Q)
    (hd : ∀ (H1 : Hp) (Q : VK), Xt [] H H1 → (∀ y H2, Xt [] H1 H2 → Dp K H2 y (.tuple (g.map fun l => PyData.str (S l))) → Q y H2) → tb σ H1 Q) (hQ : ∀ H', Xt [] H H' → Q (.bl true) H') :
    xCall (sp_law_is K) E (tCons (xCall (sp_groups K) E (tCons te tNil)) (tCons tb tNil)) σ H Q := by
  refine hv _ ⟨_, _, rfl, .text hl, ?_⟩
  rw [grp_ok hT hg]
  intro p H1 x1 hp e1
  refine hd H1 _ x1 fun y H2 x2 dy => ?_
  refine ⟨.ref p, y, _, _, rfl, dp_tups (.of (x2.get e1)), dy, Nat.le_trans (dep_strs g) (by decide), ?_, fun H3 x3 => ?_⟩
  · simp only [wD]
    rw [wDs_map (fun _ => by simp [wD])]
    omega
  · rw [lawIs_strs]
    exact hQ H3 ((x1.trans x2).trans x3)
theorem join_glue (g : List (List Nat)) : Txt.join (Str.ofString " ") (g.map S) = S (glue g) := by
  unfold Txt.join
  rw [StrLaws.glued_eq_join]
  induction g with
  | nil => rfl
  | cons a g ih =>
    cases g with
    | nil => rfl
    | cons b r =>
      show S a ++ S [32] ++ Str.join (Str.ofString " ") ((b :: r).map S) = S (a ++ 32 :: glue (b :: r))
      rw [ih, S_app, S_app]
      simp
theorem good_lt : ∀ {l : List Nat}, good l = true → ∀ c ∈ l, c < 256
  | [], _, c, h => absurd h List.not_mem_nil
  | d :: r, hg, c, h => by
    rcases List.mem_cons.mp h with rfl | h
    · unfold good at hg
      rw [Bool.and_eq_true] at hg
      have h1 := hg.1
      unfold isB isL isD isS at h1
      simp at h1
      omega
    · exact good_lt (good_tail hg) c h
end K01
set_option Elab.async false
set_option linter.all false
set_option maxRecDepth 100000
set_option maxHeartbeats 4000000
/-! K01P6: the law gives True. -/
namespace K01
open PySem PySem.Spec PyProof.Rows L2 He Wh LamX
def sp_law (K : PySem.W.Frag) (T : List (Addr × Str)) : Sp := fun vs H Q _ => ∃ (a : Addr) (ns : List Int), vs = [.ref a] ∧ SqL K H a (ns.map V.int) ∧ Tabs T H ∧ ∀ H', Q (.bl true) H'
def wrongs : List V := [.str "!", .str "&", .str "#", .str "A", .str ";", .str "'", .str "?", .str ":", .str "\t", .str "!!", .str "_", .str "Z", .str ".", .str "$", .str "~", .str ">"]
def wOne : List Nat → Bool
  | [c] => !isB c && !isL c && !isD c && !isS c
  | _ => false
def wOk (l : List Nat) : Bool := decide (l = [33, 33]) || wOne l
def wrongOk : V → Bool
  | .str z => wOk z.cps.toList
  | _ => false
theorem wrongs_ok : wrongs.all wrongOk = true := by decide +kernel
theorem wrong_T {w : List Nat} (h : wOk w = true) (m : List Nat) : T (w ++ 32 :: m) = ([], true) ∧ w.length ≤ 2 := by
  unfold wOk at h
  rcases Bool.or_eq_true_iff.mp h with h | h
  · obtain rfl := of_decide_eq_true h
    exact ⟨T_wrong rfl rfl, by decide⟩
  · match w, h with
    | [c], h =>
      have h2 : (!isB c && !isL c && !isD c && !isS c) = true := h
      simp only [Bool.and_eq_true, Bool.not_eq_true'] at h2
      obtain ⟨⟨⟨h1, h2⟩, h3⟩, h4⟩ := h2
      refine ⟨T_wrong h1 ?_, by simp⟩
      show glen (c :: 32 :: m) = 0
      rw [glen_cons, h2, h3, h4]
      have : ((32 :: m).head? == some 61) = false := rfl
      rw [this, Bool.and_false]
      rfl
theorem rep_txt (c : Nat) (n : Nat) : (⟨(List.replicate (n : Int).toNat (S [c]).cps.toList).flatten.toArray⟩ : Str) = S (List.replicate n c) := by
  have : (List.replicate n [c]).flatten = List.replicate n c := by
    induction n with
    | zero => rfl
    | succ n ih => rw [List.replicate_succ, List.flatten_cons, ih]; rfl
  show S ((List.replicate n [c]).flatten) = _
  rw [this]
theorem eqv_same {d : PyData} (h : d.canLay0 = true) : PyData.eqv d d = true := by
  exact PySem.SeqAt.eqv_refl d h
theorem ne_ans {K : PySem.W.Frag} {H : Hp} {Q : VK} {p p2 : Addr} {r : Except (Int × Int) (List (List Nat))} (h1 : SqT K H p (ansV r)) (h2 : SqT K H p2 (ansV r)) (q : Q (.bl false) H) : aNot (aEq K) (.ref p) (.ref p2) H Q :=
  aNe_dp (.tup h1 (ans_dp r)) (.tup h2 (ans_dp r)) (ans_shaped r) (ans_shaped r) (by rw [eqv_same (ans_lay r)]; exact q)
theorem one_len : (Str.ofString " ").length = 1 := rfl
theorem nl_len : (Str.ofString "\n").length = 1 := rfl
theorem lam_cmp {K : PySem.W.Frag} {T' : List (Addr × Str)} {te tr : TE} {σ : L2.St} {H : Hp} {Q : VK} {r : Except (Int × Int) (List (List Nat))} (hT : Tabs T' H)
    (hl : ∀ H1, ExtN H H1 → ∃ v, (∀ Q : VK, Q v H1 → te σ H1 Q) ∧ Asked K H1 v r) (hr : ∀ (H3 : Hp) (Q : VK), ExtN H H3 → (∀ p H4, Xt [] H3 H4 → H4 p = some (.tup (ansV r)) → Q (.ref p) H4) → tr σ H3 Q)
    (hQ : ∀ H4, ExtN H H4 → Tabs T' H4 → Q (.bl false) H4) : tOp (aNot (aEq K)) (LamX.tLam T' (tt_law_error K) fun E => xCall (sp_groups K) E (tCons te tNil)) tr σ H Q := by
  refine lam_err hT fun H1 e1 T1 => ?_
  obtain ⟨v, hv, hA⟩ := hl H1 e1
  refine ⟨v, r, hv, hA, fun p H3 e3 T3 ep => ?_⟩
  refine hr H3 _ e3 fun p2 H4 x4 ep2 => ?_
  exact ne_ans (.of (x4.get ep)) (.of ep2) (hQ H4 (e3.trans (ext_xt x4)) (T3.ext (Xt.all x4)))
def vals (p1 p2 : Addr) : List V := [.non, .int 3, .ref p1, .ref p2, .bl true, .str ⟨(List.replicate (8001 : Int).toNat (Str.ofString "a").cps.toList).flatten.toArray⟩]
theorem asked_vals {K : PySem.W.Frag} {H : Hp} {p1 p2 : Addr} (h1 : H p1 = some (.tup [])) (h2 : H p2 = some (.lst [.str "a"])) : ∀ v ∈ vals p1 p2, Asked K H v (.error (-1, 0)) := by
  intro v hv
  have hz : (⟨(List.replicate (8001 : Int).toNat (Str.ofString "a").cps.toList).flatten.toArray⟩ : Str) = S (List.replicate 8001 97) := rep_txt 97 8001
  unfold vals at hv
  rw [hz] at hv
  simp only [List.mem_cons, List.not_mem_nil, or_false] at hv
  rcases hv with rfl | rfl | rfl | rfl | rfl | rfl
  · exact .non
  · exact .int 3
  · exact .tup (.of h1)
  · exact .lst (.of h2)
  · exact .bl true
  · exact .long (by simp) (by simp)
theorem ans1 (n : Nat) : ansV (grp ((List.replicate n [97, 32]).flatten)) = if 2000 < n then [.str "text", .int 2000, .int 2] else [.str "told"] := by
  by_cases h : 2000 < n
  · rw [if_pos h, grp_many (T_rep_a n) (by simpa using h)]
    rfl
  · rw [if_neg h, grp_ok (T_rep_a n) (by simp; omega)]
    rfl
theorem ans2 (n : Nat) : ansV (grp (List.replicate n 44 ++ [32, 97])) = if n < 2000 then [.str "told"] else [.str "text", .int 2000, .int 2] := by
  have hT := T_rep_single (c := 44) (by decide) (by decide) (l := [32, 97]) (g := [[97]]) (b := false) (by rfl) n
  by_cases h : n < 2000
  · rw [if_pos h, grp_ok hT (by simp; omega)]
    rfl
  · rw [if_neg h, grp_many hT (by simp; omega)]
    rfl
theorem ans3 (n : Nat) : ansV (grp (List.replicate n 43 ++ [63])) = if n ≤ 2000 then [.str "text", .int n, .int 1] else [.str "text", .int 2000, .int 2] := by
  have hT := T_rep_single (c := 43) (by decide) (by decide) (l := [63]) (g := []) (b := true) (by rfl) n
  rw [List.append_nil] at hT
  by_cases h : n ≤ 2000
  · rw [if_pos h, grp_wrong hT (by simp; omega), List.length_replicate]
    rfl
  · rw [if_neg h, grp_many hT (by simp; omega)]
    rfl
theorem rep_two (n : Nat) : (⟨(List.replicate (n : Int).toNat (Str.ofString "a ").cps.toList).flatten.toArray⟩ : Str) = S ((List.replicate n [97, 32]).flatten) := rfl
def law_rest (K : PySem.W.Frag) (T : List (Addr × Str)) (E : XK) : TS := (tSeq (xIfS (xB (tOp (aNot (aEq K)) (LamX.tLam T (tt_law_error K) fun E => (xCall (sp_groups K) E (tCons (tOp aMul (tC (.str "a ")) (xVar 8)) tNil))) (xVar 9))) (tRet (tC (.bl false))) tNext) (tSeq (xIfS (xB (tOp (aNot (aEq K)) (LamX.tLam T (tt_law_error K) fun E => (xCall (sp_groups K) E (tCons (tOp (aAdd K) (tOp aMul (tC (.str ",")) (xVar 8)) (tC (.str " a"))) tNil))) (xIf (xB (tOp (aCmp fun i j => decide (i < j)) (xVar 8) (tC (.int 2000)))) (tTup (tCons (tC (.str "told")) tNil)) (tTup (tCons (tC (.str "text")) (tCons (tC (.int 2000)) (tCons (tC (.int 2)) tNil))))))) (tRet (tC (.bl false))) tNext) (tSeq (xIfS (xB (tOp (aNot (aEq K)) (LamX.tLam T (tt_law_error K) fun E => (xCall (sp_groups K) E (tCons (tOp (aAdd K) (tOp aMul (tC (.str "+")) (xVar 8)) (tC (.str "?"))) tNil))) (xIf (xB (tOp (aCmp fun i j => decide (i ≤ j)) (xVar 8) (tC (.int 2000)))) (tTup (tCons (tC (.str "text")) (tCons (xVar 8) (tCons (tC (.int 1)) tNil)))) (tTup (tCons (tC (.str "text")) (tCons (tC (.int 2000)) (tCons (tC (.int 2)) tNil))))))) (tRet (tC (.bl false))) tNext) (tSeq (xIfS (xOr (tNot (xTru K (xCall (sp_law_is K) E (tCons (xCall (sp_groups K) E (tCons (tOp aMul (tC (.str "a")) (tC (.int 8000))) tNil)) (tCons (tTup (tCons (tOp aMul (tC (.str "a")) (tC (.int 8000))) tNil)) tNil))))) (tNot (xTru K (xCall (sp_law_is K) E (tCons (xCall (sp_groups K) E (tCons (tOp aMul (tC (.str " ")) (tC (.int 8000))) tNil)) (tCons (tTup tNil) tNil)))))) (tRet (tC (.bl false))) tNext) (tRet (xAndV K (xCall (sp_law_is K) E (tCons (xCall (sp_groups K) E (tCons (tC (.str "a<=b==-1")) tNil)) (tCons (tTup (tCons (tC (.str "a")) (tCons (tC (.str "<=")) (tCons (tC (.str "b")) (tCons (tC (.str "==")) (tCons (tC (.str "-")) (tCons (tC (.str "1")) tNil))))))) tNil))) (xCall (sp_law_is K) E (tCons (xCall (sp_groups K) E (tCons (tC (.str "1a a1 ===")) tNil)) (tCons (tTup (tCons (tC (.str "1")) (tCons (tC (.str "a")) (tCons (tC (.str "a")) (tCons (tC (.str "1")) (tCons (tC (.str "==")) (tCons (tC (.str "=")) tNil))))))) tNil)))))))))
theorem mul_txt {K : PySem.W.Frag} {c n : Nat} {σ : L2.St} {H : Hp} {Q : VK} (hn : n ≤ 10000) (q : Q (.str (S (List.replicate n c))) H) : aMul (.str (S [c])) (.int (n : Int)) H Q := ⟨⟨by rw [S_len]; simp, by omega, by omega⟩, by rw [← rep_txt] at q; exact q⟩
theorem p_rest {K : PySem.W.Frag} {T' : List (Addr × Str)} {E : XK} {Q : VK} {H : Hp} {s0 s1 s2 s3 s4 s5 s6 s7 : Option V} {n : Nat} {pd : Addr} (hn1 : 1998 ≤ n) (hn2 : n ≤ 2002) (hT : Tabs T' H) (hd : H pd = some (.tup (if 2000 < n then [.str "text", .int 2000, .int 2] else [.str "told"])))
    (hQ : ∀ H', Q (.bl true) H') : law_rest K T' E { nx := fun _ H' => Q .non H', rt := Q } [s0, s1, s2, s3, s4, s5, s6, s7, some (.int n), some (.ref pd)] H := by
  have hb := big
  refine lam_cmp (te := (tOp aMul (tC (.str "a ")) (xVar 8))) (tr := (xVar 9)) (σ := [s0, s1, s2, s3, s4, s5, s6, s7, some (.int n), some (.ref pd)]) (r := grp ((List.replicate n [97, 32]).flatten)) hT
    (fun H1 x1 => ⟨.str (S ((List.replicate n [97, 32]).flatten)), fun Q q => ⟨⟨by decide, by omega, by omega⟩, q⟩, .text (by simp; omega)⟩)
    (fun H3 Q x hq => hq pd H3 (.refl _ _) (by rw [ans1]; exact x _ _ hd (fun _ z => by cases z))) fun H4 x4 T4 => ?_
  refine lam_cmp (te := (tOp (aAdd K) (tOp aMul (tC (.str ",")) (xVar 8)) (tC (.str " a")))) (tr := (xIf (xB (tOp (aCmp fun i j => decide (i < j)) (xVar 8) (tC (.int 2000)))) (tTup (tCons (tC (.str "told")) tNil)) (tTup (tCons (tC (.str "text")) (tCons (tC (.int 2000)) (tCons (tC (.int 2)) tNil)))))) (σ := [s0, s1, s2, s3, s4, s5, s6, s7, some (.int n), some (.ref pd)]) (r := grp (List.replicate n 44 ++ [32, 97])) T4
    (fun H1 x1 => ⟨.str (S (List.replicate n 44 ++ [32, 97])), fun Q q => ?_, .text (by simp; omega)⟩)
    (fun H3 Q x hq => ?_) fun H5 x5 T5 => ?_
  · show aMul (.str (S [44])) (.int (n : Int)) H1 (fun y H2 => aAdd K y (.str " a") H2 Q)
    refine mul_txt (K := K) (σ := []) (c := 44) (n := n) (by omega) ?_
    refine ⟨by rw [S_len]; simp; show _ + 2 ≤ _; omega, ?_⟩
    rw [← S_app] at q
    exact q
  · have a2 := ans2 n
    refine br_of (fun z => ?_) fun z => ?_
    · have z : n < 2000 := by have := of_decide_eq_true z; omega
      rw [if_pos z] at a2
      rw [a2] at hq
      exact ⟨Nat.le_trans (by simp) big, fun p hp => hq p _ (.new hp) upd_same⟩
    · have z : ¬ n < 2000 := by have := of_decide_eq_false z; omega
      rw [if_neg z] at a2
      rw [a2] at hq
      exact ⟨Nat.le_trans (by simp) big, fun p hp => hq p _ (.new hp) upd_same⟩
  refine lam_cmp (te := (tOp (aAdd K) (tOp aMul (tC (.str "+")) (xVar 8)) (tC (.str "?")))) (tr := (xIf (xB (tOp (aCmp fun i j => decide (i ≤ j)) (xVar 8) (tC (.int 2000)))) (tTup (tCons (tC (.str "text")) (tCons (xVar 8) (tCons (tC (.int 1)) tNil)))) (tTup (tCons (tC (.str "text")) (tCons (tC (.int 2000)) (tCons (tC (.int 2)) tNil)))))) (σ := [s0, s1, s2, s3, s4, s5, s6, s7, some (.int n), some (.ref pd)]) (r := grp (List.replicate n 43 ++ [63])) T5
    (fun H1 x1 => ⟨.str (S (List.replicate n 43 ++ [63])), fun Q q => ?_, .text (by simp; omega)⟩)
    (fun H3 Q x hq => ?_) fun H6 x6 T6 => ?_
  · show aMul (.str (S [43])) (.int (n : Int)) H1 (fun y H2 => aAdd K y (.str "?") H2 Q)
    refine mul_txt (K := K) (σ := []) (c := 43) (n := n) (by omega) ?_
    refine ⟨by rw [S_len]; simp; show _ + 1 ≤ _; omega, ?_⟩
    rw [← S_app] at q
    exact q
  · have a3 := ans3 n
    refine br_of (fun z => ?_) fun z => ?_
    · have z : n ≤ 2000 := by have := of_decide_eq_true z; omega
      rw [if_pos z] at a3
      rw [a3] at hq
      exact ⟨Nat.le_trans (by simp) big, fun p hp => hq p _ (.new hp) upd_same⟩
    · have z : ¬ n ≤ 2000 := by have := of_decide_eq_false z; omega
      rw [if_neg z] at a3
      rw [a3] at hq
      exact ⟨Nat.le_trans (by simp) big, fun p hp => hq p _ (.new hp) upd_same⟩
  refine is_groups (te := (tOp aMul (tC (.str "a")) (tC (.int 8000)))) (tb := (tTup (tCons (tOp aMul (tC (.str "a")) (tC (.int 8000))) tNil))) (σ := [s0, s1, s2, s3, s4, s5, s6, s7, some (.int n), some (.ref pd)]) (l := List.replicate 8000 97) (g := [List.replicate 8000 97]) (T_rep_word 7999) (by simp) (by decide)
    (fun Q q => mul_txt (K := K) (σ := []) (c := 97) (n := 8000) (by decide) q) (fun H7 Q x hq => show aMul (.str (S [97])) (.int ((8000 : Nat) : Int)) H7 (fun y H2 => ([y] : List V).length ≤ sizeLine ∧ ∀ p, H2 p = none → Q (.ref p) (upd H2 p (.tup [y]))) from mul_txt (K := K) (σ := []) (c := 97) (n := 8000) (by decide) ⟨Nat.le_trans (by simp) big, fun p hp => hq _ _ (.new hp) (dp_tups (g := [List.replicate 8000 97]) (.of upd_same))⟩) fun H7 x7 => ?_
  refine is_groups (te := (tOp aMul (tC (.str " ")) (tC (.int 8000)))) (tb := (tTup tNil)) (σ := [s0, s1, s2, s3, s4, s5, s6, s7, some (.int n), some (.ref pd)]) (l := List.replicate 8000 32) (g := []) (T_rep_blank 8000) (by simp) (by decide)
    (fun Q q => mul_txt (K := K) (σ := []) (c := 32) (n := 8000) (by decide) q) (fun H8 Q x hq => ⟨by decide, fun p hp => hq _ _ (.new hp) (dp_tups (g := []) (.of upd_same))⟩) fun H8 x8 => ?_
  refine is_groups (te := (tC (.str "a<=b==-1"))) (tb := (tTup (tCons (tC (.str "a")) (tCons (tC (.str "<=")) (tCons (tC (.str "b")) (tCons (tC (.str "==")) (tCons (tC (.str "-")) (tCons (tC (.str "1")) tNil)))))))) (σ := [s0, s1, s2, s3, s4, s5, s6, s7, some (.int n), some (.ref pd)]) (l := [97, 60, 61, 98, 61, 61, 45, 49]) (g := [[97], [60, 61], [98], [61, 61], [45], [49]]) (by decide) (by decide) (by decide)
    (fun Q q => q) (fun H9 Q x hq => ⟨Nat.le_trans (by simp) big, fun p hp => hq _ _ (.new hp) (dp_tups (g := [[97], [60, 61], [98], [61, 61], [45], [49]]) (.of upd_same))⟩) fun H9 x9 => ?_
  refine is_groups (te := (tC (.str "1a a1 ==="))) (tb := (tTup (tCons (tC (.str "1")) (tCons (tC (.str "a")) (tCons (tC (.str "a")) (tCons (tC (.str "1")) (tCons (tC (.str "==")) (tCons (tC (.str "=")) tNil)))))))) (σ := [s0, s1, s2, s3, s4, s5, s6, s7, some (.int n), some (.ref pd)]) (l := [49, 97, 32, 97, 49, 32, 61, 61, 61]) (g := [[49], [97], [97], [49], [61, 61], [61]]) (by decide) (by decide) (by decide)
    (fun Q q => q) (fun H10 Q x hq => ⟨Nat.le_trans (by simp) big, fun p hp => hq _ _ (.new hp) (dp_tups (g := [[49], [97], [97], [49], [61, 61], [61]]) (.of upd_same))⟩) fun H10 x10 => ?_
  exact hQ H10
theorem p_law {K : PySem.W.Frag} {T' : List (Addr × Str)} (vs : List V) (H : Hp) (Q : VK) (E : XK) (h : sp_law K T' vs H Q E) : r_law K T' E { nx := fun _ H' => Q .non H', rt := Q } (start N_law vs) H := by
  obtain ⟨a, ns, rfl, hs, hT, hQ⟩ := h
  have hb := big
  refine ⟨a, ns, rfl, hs, fun b H1 x1 hb0 hB => ?_⟩
  have hT1 := hT.ext (Xt.all x1)
  refine ⟨by decide, ?_⟩
  refine ⟨fun i σ H2 => Box H2 b ∧ Tabs T' H2 ∧ ∃ s0 s2 s3 s4 s5 s6 s7 s8 s9 : Option V, σ = [s0, some (.ref b), s2, s3, s4, s5, s6, s7, s8, s9], ⟨hB, hT1, _, _, _, _, _, _, _, _, _, rfl⟩, fun _ _ _ _ _ => trivial, ?_, ?_⟩
  · rintro i v σ H2 H3 hi ⟨hB, hT, s0, s2, s3, s4, s5, s6, s7, s8, s9, rfl⟩ ⟨rfl, rfl⟩
    refine ⟨b, 40, rfl, by decide, by decide, hB, fun k H3 k0 k1 x3 hB3 => ?_⟩
    obtain ⟨xs, hxs⟩ := hB.there
    have hT3 := tabs_box hT x3 hxs
    refine ⟨⟨by omega, by omega⟩, ?_⟩
    refine ⟨fun j σ H4 => Box H4 b ∧ Tabs T' H4 ∧ ∃ (l : List Nat) (s0 s2 s4 s5 s6 s7 s8 s9 : Option V), σ = [s0, some (.ref b), s2, some (.str (S l)), s4, s5, s6, s7, s8, s9] ∧ good l = true ∧ l.length ≤ 6 * j, ⟨hB3, hT3, [], _, _, _, _, _, _, _, _, rfl, rfl, by simp⟩, fun _ _ _ _ _ => trivial, ?_, ?_⟩
    · rintro j v σ H4 H5 hj ⟨hB, hT, l, s0, s2, s4, s5, s6, s7, s8, s9, rfl, hg, hl⟩ ⟨rfl, rfl⟩
      refine ⟨b, rfl, hB, fun l2 H5 hg2 hl2 x5 hB5 => ?_⟩
      obtain ⟨xs, hxs⟩ := hB.there
      have hT5 := tabs_box hT x5 hxs
      refine ⟨by rw [S_len, S_len]; omega, ?_⟩
      rw [S_app]
      refine ⟨Nat.le_trans (by simp) big, fun p hp => ?_⟩
      obtain ⟨xs5, hxs5⟩ := hB5.there
      have hne : p ≠ b := fun e => by rw [e, hxs5] at hp; cases hp
      refine ⟨b, p, [.str "", .str " "], rfl, hne, .inl (.of upd_same), by decide, by decide, hB5.new hp, fun v H6 hv x6 hB6 => ?_⟩
      have hxs6 : upd H5 p (.lst [.str "", .str " "]) b = some (.lst xs5) := by rw [upd_ne (Ne.symm hne)]; exact hxs5
      have hT6 := tabs_box (hT5.ext (Xt.all (.new hp))) x6 hxs6
      obtain ⟨l3, rfl, hg3, hl3⟩ : ∃ l3, v = .str (S l3) ∧ good l3 = true ∧ l3.length ≤ 1 := by
        simp only [List.mem_cons, List.not_mem_nil, or_false] at hv
        rcases hv with rfl | rfl
        · exact ⟨[], rfl, rfl, by decide⟩
        · exact ⟨[32], rfl, rfl, by decide⟩
      refine ⟨by rw [S_len, S_len, List.length_append]; omega, ?_⟩
      rw [S_app]
      exact ⟨hB6, hT6, _, _, _, _, _, _, _, _, _, rfl, good_append _ _ (good_append _ _ hg hg2) hg3, by simp only [List.length_append]; omega⟩
    · rintro σ H4 ⟨hB, hT, l, s0, s2, s4, s5, s6, s7, s8, s9, rfl, hg, hl⟩
      have hl : l.length ≤ 240 := by
        have : k.toNat ≤ 40 := by omega
        omega
      refine ⟨l, rfl, by omega, good_lt hg, fun q H5 x5 hq e5 => ?_⟩
      have hB5 := hB.xt x5
      have hT5 := hT.ext (Xt.all x5)
      have hTl2 := good_T _ l (Nat.le_refl _) hg
      obtain ⟨g, hTl⟩ : ∃ g, T l = (g, false) := ⟨(T l).1, by rw [← hTl2]⟩
      have hcut : cut l = g := by rw [cut_eq hTl2, hTl]
      rw [hcut] at e5
      have hgl : g.length ≤ l.length := by
        have := T_count l
        rw [hTl] at this
        exact this
      have htok : ∀ x ∈ g, isTok x := by
        have := T_toks _ l (Nat.le_refl _)
        rw [hTl] at this
        exact this
      have hsum : (g.map List.length).sum ≤ l.length := by
        have := T_len _ l (Nat.le_refl _)
        rw [hTl] at this
        exact this
      have dpt : ∀ {H1 H2 : Hp} {Q : VK} {σ : L2.St}, Xt [] H5 H1 → (∀ y H3, Xt [] H1 H3 → Dp K H3 y (.tuple (g.map fun l => PyData.str (S l))) → Q y H3) → σ[5]? = some (some (.ref q)) → tCB (on1 (aTupOf K)) (tCons (xVar 5) tNil) σ H1 Q := by
        intro H1 H2 Q σ x hq2 hs
        show xVar 5 σ H1 _
        unfold xVar
        rw [hs]
        refine ⟨_, .inl ⟨.of (x.get e5), fun r hr => hq2 _ _ (.new hr) (dp_tups (.of upd_same))⟩⟩
      refine is_groups (te := xVar 3) (tb := tCB (on1 (aTupOf K)) (tCons (xVar 5) tNil)) (σ := [s0, some (.ref b), s2, some (.str (S l)), s4, some (.ref q), s6, s7, s8, s9]) hTl (by omega) (by omega) (fun Q q => q) (fun H1 Q x hq2 => dpt (H2 := H1) x hq2 rfl) fun H6 x6 => ?_
      have glen_glue : ∀ g : List (List Nat), (glue g).length ≤ (g.map List.length).sum + g.length := by
        intro g
        induction g with
        | nil => simp [glue]
        | cons a r ih =>
          cases r with
          | nil => simp [glue]
          | cons c r =>
            show (a ++ 32 :: glue (c :: r)).length ≤ _
            simp only [List.length_append, List.length_cons, List.map_cons, List.sum_cons] at ih ⊢
            omega
      have hgg := glen_glue g
      refine is_groups (te := xJoin K (tC (.str " ")) (xVar 5)) (tb := tCB (on1 (aTupOf K)) (tCons (xVar 5) tNil)) (σ := [s0, some (.ref b), s2, some (.str (S l)), s4, some (.ref q), s6, s7, s8, s9]) (T_glue g htok) (by omega) (by omega) (fun Q qq => ?_) (fun H1 Q x hq2 => dpt (H2 := H1) (x6.trans x) hq2 rfl) fun H7 x7 => ?_
      · have e6 := x6.get e5
        refine ⟨g.map S, .inl (.of (by rw [List.map_map]; exact e6)), ?_, ?_⟩
        · have : ((g.map S).map (·.length)).sum = (g.map List.length).sum := by
            rw [List.map_map]
            congr 2
          rw [this, List.length_map]
          show _ + g.length * 1 ≤ _
          omega
        · rw [join_glue]
          exact qq
      have x67 := x6.trans x7
      refine ⟨Nat.le_trans (by simp) big, fun p hp => ?_⟩
      have hB7 := (hB5.xt x67).new (o := .lst wrongs) hp
      have hT7 := (hT5.ext (Xt.all x67)).ext (Xt.all (.new (o := .lst wrongs) hp))
      have e7 : upd H7 p (.lst wrongs) q = some (.lst (g.map fun l => .str (S l))) := by rw [upd_ne (ne_of_none (x67.get e5) hp)]; exact x67.get e5
      obtain ⟨xs7, hxs7⟩ := (hB5.xt x67).there
      have hne : p ≠ b := fun e => by rw [e, hxs7] at hp; cases hp
      have hxs7' : upd H7 p (.lst wrongs) b = some (.lst xs7) := by rw [upd_ne (Ne.symm hne)]; exact hxs7
      have hqb : q ≠ b := fun e => by
        obtain ⟨a2, rest, st, k1, k2, k3⟩ := hB7
        rw [e, k1] at e7
        have := Option.some.inj e7
        injection this with this
        cases g with
        | nil => cases this
        | cons c r => simp at this
      refine ⟨b, p, wrongs, rfl, hne, .inl (.of upd_same), by decide, by decide, hB7, fun v H8 hv x8 hB8 => ?_⟩
      have hT8 := tabs_box hT7 x8 hxs7'
      have e8 := x8.keep q _ (by simpa using hqb) e7
      have hw := List.all_eq_true.mp wrongs_ok v hv
      obtain ⟨w, rfl, hwk⟩ : ∃ w, v = .str (S w) ∧ wOk w = true := by
        cases v with
        | str z => exact ⟨z.cps.toList, by rw [S_of], hw⟩
        | _ => cases hw
      have hwT := wrong_T hwk l
      refine lam_err (te := tOp (aAdd K) (tOp (aAdd K) (tOp (aAdd K) (tOp (aAdd K) (xVar 3) (tC (.str " "))) (xVar 6)) (tC (.str " "))) (xVar 3)) (σ := [s0, some (.ref b), s2, some (.str (S l)), s4, some (.ref q), some (.str (S w)), s7, s8, s9]) (H := H8) hT8 fun H9 x9 T9 =>
        ⟨.str (S ((((l ++ [32]) ++ w) ++ [32]) ++ l)), .error ((g.length : Nat), 1), fun Q qq => ?_, ?_, fun p2 H10 x10 T10 e10 => ?_⟩
      · refine ⟨?_, ⟨?_, ⟨?_, ⟨?_, ?_⟩⟩⟩⟩
        · rw [S_len, one_len]; omega
        · rw [Str.length_append, S_len, S_len, one_len]; omega
        · rw [Str.length_append, Str.length_append, S_len, S_len, one_len]; omega
        · rw [Str.length_append, Str.length_append, Str.length_append, S_len, S_len, one_len]; omega
        · rw [← S_app, ← S_app, ← S_app, ← S_app] at qq
          exact qq
      · have hTT : T ((((l ++ [32]) ++ w) ++ [32]) ++ l) = (g, true) := by
          have := T_append (b := 32) rfl (w ++ 32 :: l) _ l g (Nat.le_refl _) hTl
          rw [hwT.1, List.append_nil] at this
          rw [← this]
          congr 1
          simp
        rw [← grp_wrong hTT (by omega)]
        exact .text (by simp only [List.length_append, List.length_singleton]; omega)
      have e10q : H10 q = some (.lst (g.map fun l => .str (S l))) := x10 _ _ e8 (fun _ z => by cases z)
      refine ⟨_, .inl (.of e10q), ⟨Nat.le_trans (by simp) big, fun p3 hp3 => ?_⟩⟩
      rw [List.length_map]
      refine ne_ans (r := .error ((g.length : Nat), 1)) (.of (by rw [upd_ne (ne_of_none e10 hp3)]; exact e10)) (.of upd_same) ?_
      have hB10 := (Box.extN hB8 x10).new (o := .tup [.str "text", .int (g.length : Nat), .int 1]) hp3
      have hT10 := T10.ext (Xt.all (.new (o := .tup [.str "text", .int (g.length : Nat), .int 1]) hp3))
      have e10q' : upd H10 p3 (.tup [.str "text", .int (g.length : Nat), .int 1]) q = some (.lst (g.map fun l => .str (S l))) := by rw [upd_ne (ne_of_none e10q hp3)]; exact e10q
      generalize upd H10 p3 (.tup [.str "text", .int (g.length : Nat), .int 1]) = H11 at hB10 hT10 e10q'
      have hTn : T ((l ++ [10]) ++ l) = (g ++ g, false) := by
        have := T_append (b := 10) rfl l _ l g (Nat.le_refl _) hTl
        rw [hTl] at this
        rw [← this]
        congr 1
        simp
      refine is_groups (te := tOp (aAdd K) (tOp (aAdd K) (xVar 3) (tC (.str "\n"))) (xVar 3)) (tb := tCB (on1 (aTupOf K)) (tCons (tOp (aAdd K) (xVar 5) (xVar 5)) tNil)) (σ := [s0, some (.ref b), s2, some (.str (S l)), s4, some (.ref q), some (.str (S w)), s7, s8, s9]) hTn
        (by simp only [List.length_append, List.length_singleton]; omega) (by simp only [List.length_append]; omega) (fun Q qq => ?_) (fun H12 Q x12 hq2 => ?_) fun H12 x12 => ?_
      · refine ⟨?_, ⟨?_, ?_⟩⟩
        · rw [S_len, nl_len]; omega
        · rw [Str.length_append, S_len, nl_len]; omega
        · rw [← S_app, ← S_app] at qq
          exact qq
      · have e12 := x12.get e10q'
        refine .inl ⟨_, _, e12, e12, by simp only [List.length_map]; omega, fun p4 hp4 => ?_⟩
        refine ⟨_, .inl ⟨.of upd_same, fun p5 hp5 => ?_⟩⟩
        refine hq2 _ _ ((Xt.new hp4).trans (.new hp5)) (dp_tups (g := g ++ g) (.of ?_))
        rw [upd_same, List.map_append]
      · exact ⟨hB10.xt x12, hT10.ext (Xt.all x12), _, _, _, _, _, _, _, _, _, rfl⟩
  · rintro σ H2 ⟨hB, hT, s0, s2, s3, s4, s5, s6, s7, s8, s9, rfl⟩
    refine ⟨by decide, fun p1 hp1 => ⟨Nat.le_trans (by simp) big, fun p2 hp2 => ⟨⟨by decide, by decide, by decide⟩, ⟨Nat.le_trans (by simp) big, fun p3 hp3 => .inl ⟨vals p1 p2, .of upd_same, ?_⟩⟩⟩⟩⟩
    have e1 : upd (upd (upd H2 p1 (.tup [])) p2 (.lst [.str "a"])) p3 (.lst (vals p1 p2)) p1 = some (.tup []) := by
      have h1 := ne_of_none (o := .tup []) upd_same hp2
      have h2 : p1 ≠ p3 := ne_of_none (o := .tup []) (by rw [upd_ne h1, upd_same]) hp3
      rw [upd_ne h2, upd_ne h1, upd_same]
    have e2 : upd (upd (upd H2 p1 (.tup [])) p2 (.lst [.str "a"])) p3 (.lst (vals p1 p2)) p2 = some (.lst [.str "a"]) := by
      rw [upd_ne (ne_of_none (o := .lst [.str "a"]) upd_same hp3), upd_same]
    have e3 : upd (upd (upd H2 p1 (.tup [])) p2 (.lst [.str "a"])) p3 (.lst (vals p1 p2)) p3 = some (.lst (vals p1 p2)) := upd_same
    have x3 : Xt [] H2 (upd (upd (upd H2 p1 (.tup [])) p2 (.lst [.str "a"])) p3 (.lst (vals p1 p2))) := ((Xt.new hp1).trans (.new hp2)).trans (.new hp3)
    have hB3 := hB.xt x3
    have hT3 := hT.ext (Xt.all x3)
    refine ⟨fun i σ H4 => Box H4 b ∧ Tabs T' H4 ∧ H4 p1 = some (.tup []) ∧ H4 p2 = some (.lst [.str "a"]) ∧ H4 p3 = some (.lst (vals p1 p2)) ∧ ∃ s0 s2 s3 s4 s5 s6 s7 s8 s9 : Option V, σ = [s0, some (.ref b), s2, s3, s4, s5, s6, s7, s8, s9], ⟨hB3, hT3, e1, e2, e3, _, _, _, _, _, _, _, _, _, rfl⟩, ?_, ?_, ?_⟩
    · rintro i σ H4 hi ⟨_, _, _, _, e, _⟩
      exact .of e
    · rintro i v σ H4 H5 hi ⟨hB, hT, e1, e2, e3, s0, s2, s3, s4, s5, s6, s7, s8, s9, rfl⟩ ⟨rfl, hv⟩
      refine lam_cmp (te := xVar 7) (tr := tTup (tCons (tC (.str "text")) (tCons (tUn aNeg (tC (.int 1))) (tCons (tC (.int 0)) tNil)))) (r := .error (-1, 0)) (σ := [s0, some (.ref b), s2, s3, s4, s5, s6, some v, s8, s9]) hT
        (fun H1 x1 => ⟨v, fun Q q => q, asked_vals (x1 _ _ e1 (fun _ z => by cases z)) (x1 _ _ e2 (fun _ z => by cases z)) v (List.mem_of_getElem? hv)⟩)
        (fun H3 Q x hq => ⟨Nat.le_trans (by simp) big, fun p hp => hq p _ (.new hp) upd_same⟩) fun H6 x6 T6 => ?_
      exact ⟨Box.extN hB x6, T6, x6 _ _ e1 (fun _ z => by cases z), x6 _ _ e2 (fun _ z => by cases z), x6 _ _ e3 (fun _ z => by cases z), _, _, _, _, _, _, _, _, _, rfl⟩
    · rintro σ H4 ⟨hB, hT, _, _, _, s0, s2, s3, s4, s5, s6, s7, s8, s9, rfl⟩
      refine ⟨b, 5, rfl, by decide, by decide, hB, fun k H5 k0 k1 x5 hB5 => ?_⟩
      obtain ⟨xs, hxs⟩ := hB.there
      have hT5 := tabs_box hT x5 hxs
      obtain ⟨n, hn⟩ : ∃ n : Nat, 1998 + k = (n : Int) := ⟨(1998 + k).toNat, by omega⟩
      have hn1 : 1998 ≤ n := by omega
      have hn2 : n ≤ 2002 := by omega
      conv => whnf
      rw [hn]
      refine br_of (fun z => ?_) fun z => ?_
      · have z : 2000 < n := by have := of_decide_eq_true z; omega
        refine ⟨Nat.le_trans (by simp) big, fun pd hpd => ?_⟩
        exact p_rest hn1 hn2 (hT5.ext (Xt.all (.new hpd))) (by rw [if_pos z]; exact upd_same) hQ
      · have z : ¬ 2000 < n := by have := of_decide_eq_false z; omega
        refine ⟨Nat.le_trans (by simp) big, fun pd hpd => ?_⟩
        exact p_rest hn1 hn2 (hT5.ext (Xt.all (.new hpd))) (by rw [if_neg z]; exact upd_same) hQ
end K01
set_option Elab.async false
set_option linter.all false
set_option maxRecDepth 100000
set_option maxHeartbeats 0
/-! K01End: all together. -/
namespace K01
open PySem PySem.Spec PyProof.Rows L2 He Wh LamX
section
variable {P : Program} {w : World} {K : PySem.W.Frag} {mg : Str → Option Value} {base : Heap}
theorem cal_of {x qual : Str} {params : Arguments} {body : List Stmt} {scope : Scope} {f : Addr} {fd : FuncData} {k : Nat} {ps : List Str} {sp : Sp} (F : FunD K x qual params body scope [] [] f fd) (ok : FnOk P w K mg base (L2.CX P w) k f fd ps sp) (hm : mg x = some (.ref f)) (hb : L2.Binds K fd ps []) : Cal P w K mg base k x ps sp := ⟨⟨f, fd, ok, hm, F.kp, hb⟩⟩
/-- a def that calls itself, n deep -/
theorem ok_law_is {f : Addr} {fd : FuncData} (F : FunD K "_law_is" "_law_is" (defArgs s_law_is) (defBody s_law_is) (defScope s_law_is) [] [] f fd) (G : Gs P K mg) (hm : mg "_law_is" = some (.ref f)) (hb : L2.Binds K fd ["told", "due"] []) : ∀ n : Nat, FnOk P w K mg base (L2.CX P w) (n + 1) f fd ["told", "due"] (sp_law_is_n n K) := by
  have one : ∀ (n : Nat) (sp : Sp), Cal P w K mg base n "_law_is" ["told", "due"] sp → (∀ vs H Q E, (0 < n ∧ sp_law_is_n (n - 1) K vs H Q E) → sp vs H Q E) → FnOk P w K mg base (L2.CX P w) (n + 1) f fd ["told", "due"] (sp_law_is_n n K) := fun n sp c h =>
    F.ok sc_law_is (fun vs H Q E ⟨_, _, _, _, e, _⟩ => by rw [e]; rfl) fun cdv A outer s H vs Q E hr hs => ⟨_, w_law_is G c hr, p_law_is h vs H Q E hs⟩
  intro n
  induction n with
  | zero => exact one 0 (fun _ _ _ _ => False) (cal_of F ⟨fun _ _ _ _ z => z.elim, fun _ _ _ _ _ _ _ _ _ _ _ _ _ z => z.elim⟩ hm hb) fun _ _ _ _ z => absurd z.1 (by decide)
  | succ n ih => exact one (n + 1) (sp_law_is_n n K) (cal_of F ih hm hb) fun _ _ _ _ z => z.2
end
theorem len_end_of {K : PySem.W.Frag} (vs : List V) (H : Hp) (Q : VK) (E : XK) (h : sp_end_of K vs H Q E) : vs.length = 3 := by
  first
  | (obtain ⟨_, rfl, _⟩ := h; rfl)
  | (obtain ⟨_, _, rfl, _⟩ := h; rfl)
  | (obtain ⟨_, _, _, rfl, _⟩ := h; rfl)
  | (obtain ⟨_, _, _, _, rfl, _⟩ := h; rfl)
  | (obtain ⟨_, _, _, _, _, rfl, _⟩ := h; rfl)
  | (obtain ⟨_, _, _, _, _, _, rfl, _⟩ := h; rfl)
  | (obtain ⟨_, _, _, _, _, _, _, rfl, _⟩ := h; rfl)
  | (obtain ⟨_, _, _, _, _, _, _, _, rfl, _⟩ := h; rfl)
  | (obtain ⟨_, _, _, _, _, _, _, _, _, rfl, _⟩ := h; rfl)
  | (obtain ⟨_, _, _, _, _, _, _, _, _, _, rfl, _⟩ := h; rfl)
  | (obtain ⟨_, _, _, _, _, _, _, _, _, _, _, rfl, _⟩ := h; rfl)
theorem len_group_end {K : PySem.W.Frag} (vs : List V) (H : Hp) (Q : VK) (E : XK) (h : sp_group_end K vs H Q E) : vs.length = 2 := by
  first
  | (obtain ⟨_, rfl, _⟩ := h; rfl)
  | (obtain ⟨_, _, rfl, _⟩ := h; rfl)
  | (obtain ⟨_, _, _, rfl, _⟩ := h; rfl)
  | (obtain ⟨_, _, _, _, rfl, _⟩ := h; rfl)
  | (obtain ⟨_, _, _, _, _, rfl, _⟩ := h; rfl)
  | (obtain ⟨_, _, _, _, _, _, rfl, _⟩ := h; rfl)
  | (obtain ⟨_, _, _, _, _, _, _, rfl, _⟩ := h; rfl)
  | (obtain ⟨_, _, _, _, _, _, _, _, rfl, _⟩ := h; rfl)
  | (obtain ⟨_, _, _, _, _, _, _, _, _, rfl, _⟩ := h; rfl)
  | (obtain ⟨_, _, _, _, _, _, _, _, _, _, rfl, _⟩ := h; rfl)
  | (obtain ⟨_, _, _, _, _, _, _, _, _, _, _, rfl, _⟩ := h; rfl)
theorem len_groups {K : PySem.W.Frag} (vs : List V) (H : Hp) (Q : VK) (E : XK) (h : sp_groups K vs H Q E) : vs.length = 1 := by
  first
  | (obtain ⟨_, rfl, _⟩ := h; rfl)
  | (obtain ⟨_, _, rfl, _⟩ := h; rfl)
  | (obtain ⟨_, _, _, rfl, _⟩ := h; rfl)
  | (obtain ⟨_, _, _, _, rfl, _⟩ := h; rfl)
  | (obtain ⟨_, _, _, _, _, rfl, _⟩ := h; rfl)
  | (obtain ⟨_, _, _, _, _, _, rfl, _⟩ := h; rfl)
  | (obtain ⟨_, _, _, _, _, _, _, rfl, _⟩ := h; rfl)
  | (obtain ⟨_, _, _, _, _, _, _, _, rfl, _⟩ := h; rfl)
  | (obtain ⟨_, _, _, _, _, _, _, _, _, rfl, _⟩ := h; rfl)
  | (obtain ⟨_, _, _, _, _, _, _, _, _, _, rfl, _⟩ := h; rfl)
  | (obtain ⟨_, _, _, _, _, _, _, _, _, _, _, rfl, _⟩ := h; rfl)
theorem len_law_box {K : PySem.W.Frag} (vs : List V) (H : Hp) (Q : VK) (E : XK) (h : sp_law_box K vs H Q E) : vs.length = 1 := by
  first
  | (obtain ⟨_, rfl, _⟩ := h; rfl)
  | (obtain ⟨_, _, rfl, _⟩ := h; rfl)
  | (obtain ⟨_, _, _, rfl, _⟩ := h; rfl)
  | (obtain ⟨_, _, _, _, rfl, _⟩ := h; rfl)
  | (obtain ⟨_, _, _, _, _, rfl, _⟩ := h; rfl)
  | (obtain ⟨_, _, _, _, _, _, rfl, _⟩ := h; rfl)
  | (obtain ⟨_, _, _, _, _, _, _, rfl, _⟩ := h; rfl)
  | (obtain ⟨_, _, _, _, _, _, _, _, rfl, _⟩ := h; rfl)
  | (obtain ⟨_, _, _, _, _, _, _, _, _, rfl, _⟩ := h; rfl)
  | (obtain ⟨_, _, _, _, _, _, _, _, _, _, rfl, _⟩ := h; rfl)
  | (obtain ⟨_, _, _, _, _, _, _, _, _, _, _, rfl, _⟩ := h; rfl)
theorem len_law_take {K : PySem.W.Frag} (vs : List V) (H : Hp) (Q : VK) (E : XK) (h : sp_law_take K vs H Q E) : vs.length = 2 := by
  first
  | (obtain ⟨_, rfl, _⟩ := h; rfl)
  | (obtain ⟨_, _, rfl, _⟩ := h; rfl)
  | (obtain ⟨_, _, _, rfl, _⟩ := h; rfl)
  | (obtain ⟨_, _, _, _, rfl, _⟩ := h; rfl)
  | (obtain ⟨_, _, _, _, _, rfl, _⟩ := h; rfl)
  | (obtain ⟨_, _, _, _, _, _, rfl, _⟩ := h; rfl)
  | (obtain ⟨_, _, _, _, _, _, _, rfl, _⟩ := h; rfl)
  | (obtain ⟨_, _, _, _, _, _, _, _, rfl, _⟩ := h; rfl)
  | (obtain ⟨_, _, _, _, _, _, _, _, _, rfl, _⟩ := h; rfl)
  | (obtain ⟨_, _, _, _, _, _, _, _, _, _, rfl, _⟩ := h; rfl)
  | (obtain ⟨_, _, _, _, _, _, _, _, _, _, _, rfl, _⟩ := h; rfl)
theorem len_law_pick {K : PySem.W.Frag} (vs : List V) (H : Hp) (Q : VK) (E : XK) (h : sp_law_pick K vs H Q E) : vs.length = 2 := by
  first
  | (obtain ⟨_, rfl, _⟩ := h; rfl)
  | (obtain ⟨_, _, rfl, _⟩ := h; rfl)
  | (obtain ⟨_, _, _, rfl, _⟩ := h; rfl)
  | (obtain ⟨_, _, _, _, rfl, _⟩ := h; rfl)
  | (obtain ⟨_, _, _, _, _, rfl, _⟩ := h; rfl)
  | (obtain ⟨_, _, _, _, _, _, rfl, _⟩ := h; rfl)
  | (obtain ⟨_, _, _, _, _, _, _, rfl, _⟩ := h; rfl)
  | (obtain ⟨_, _, _, _, _, _, _, _, rfl, _⟩ := h; rfl)
  | (obtain ⟨_, _, _, _, _, _, _, _, _, rfl, _⟩ := h; rfl)
  | (obtain ⟨_, _, _, _, _, _, _, _, _, _, rfl, _⟩ := h; rfl)
  | (obtain ⟨_, _, _, _, _, _, _, _, _, _, _, rfl, _⟩ := h; rfl)
theorem len_law_cut {K : PySem.W.Frag} (vs : List V) (H : Hp) (Q : VK) (E : XK) (h : sp_law_cut K vs H Q E) : vs.length = 1 := by
  first
  | (obtain ⟨_, rfl, _⟩ := h; rfl)
  | (obtain ⟨_, _, rfl, _⟩ := h; rfl)
  | (obtain ⟨_, _, _, rfl, _⟩ := h; rfl)
  | (obtain ⟨_, _, _, _, rfl, _⟩ := h; rfl)
  | (obtain ⟨_, _, _, _, _, rfl, _⟩ := h; rfl)
  | (obtain ⟨_, _, _, _, _, _, rfl, _⟩ := h; rfl)
  | (obtain ⟨_, _, _, _, _, _, _, rfl, _⟩ := h; rfl)
  | (obtain ⟨_, _, _, _, _, _, _, _, rfl, _⟩ := h; rfl)
  | (obtain ⟨_, _, _, _, _, _, _, _, _, rfl, _⟩ := h; rfl)
  | (obtain ⟨_, _, _, _, _, _, _, _, _, _, rfl, _⟩ := h; rfl)
  | (obtain ⟨_, _, _, _, _, _, _, _, _, _, _, rfl, _⟩ := h; rfl)
theorem len_law_piece {K : PySem.W.Frag} (vs : List V) (H : Hp) (Q : VK) (E : XK) (h : sp_law_piece K vs H Q E) : vs.length = 1 := by
  first
  | (obtain ⟨_, rfl, _⟩ := h; rfl)
  | (obtain ⟨_, _, rfl, _⟩ := h; rfl)
  | (obtain ⟨_, _, _, rfl, _⟩ := h; rfl)
  | (obtain ⟨_, _, _, _, rfl, _⟩ := h; rfl)
  | (obtain ⟨_, _, _, _, _, rfl, _⟩ := h; rfl)
  | (obtain ⟨_, _, _, _, _, _, rfl, _⟩ := h; rfl)
  | (obtain ⟨_, _, _, _, _, _, _, rfl, _⟩ := h; rfl)
  | (obtain ⟨_, _, _, _, _, _, _, _, rfl, _⟩ := h; rfl)
  | (obtain ⟨_, _, _, _, _, _, _, _, _, rfl, _⟩ := h; rfl)
  | (obtain ⟨_, _, _, _, _, _, _, _, _, _, rfl, _⟩ := h; rfl)
  | (obtain ⟨_, _, _, _, _, _, _, _, _, _, _, rfl, _⟩ := h; rfl)
theorem len_law {K : PySem.W.Frag} {T : List (Addr × Str)} (vs : List V) (H : Hp) (Q : VK) (E : XK) (h : sp_law K T vs H Q E) : vs.length = 1 := by
  first
  | (obtain ⟨_, rfl, _⟩ := h; rfl)
  | (obtain ⟨_, _, rfl, _⟩ := h; rfl)
  | (obtain ⟨_, _, _, rfl, _⟩ := h; rfl)
  | (obtain ⟨_, _, _, _, rfl, _⟩ := h; rfl)
  | (obtain ⟨_, _, _, _, _, rfl, _⟩ := h; rfl)
  | (obtain ⟨_, _, _, _, _, _, rfl, _⟩ := h; rfl)
  | (obtain ⟨_, _, _, _, _, _, _, rfl, _⟩ := h; rfl)
  | (obtain ⟨_, _, _, _, _, _, _, _, rfl, _⟩ := h; rfl)
  | (obtain ⟨_, _, _, _, _, _, _, _, _, rfl, _⟩ := h; rfl)
  | (obtain ⟨_, _, _, _, _, _, _, _, _, _, rfl, _⟩ := h; rfl)
  | (obtain ⟨_, _, _, _, _, _, _, _, _, _, _, rfl, _⟩ := h; rfl)
theorem facts {w : World} {K : PySem.W.Frag} {h : Heap} {mg : Str → Option Value} {fa0 : Addr} (X : K.In h) (Hn : h.Ns mainGlobals mg) (hfa : mg "law" = some (.ref fa0)) (c : SaysW fa fn es tf ex file h K) : LawAtS PySem.Challenge.rw_wholied_k01_whole_texts_cut_into_groups w K (L2.CX R.prog w) 42 63 "script" mg fa0 h := by
  have G := gs_of X Hn c
  obtain ⟨fd_end_of, F0_end_of⟩ := c.d.def_ 0 (d := d_end_of) rfl
  have F_end_of : FunD K "end_of" "end_of" (defArgs s_end_of) (defBody s_end_of) (defScope s_end_of) [] [] (ga K "end_of") fd_end_of := F0_end_of
  have m_end_of : mg "end_of" = some (.ref (ga K "end_of")) := glo_ok X Hn (c.d.fact 0 (f := .glo "end_of") rfl)
  have b_end_of : L2.Binds K fd_end_of ["text", "at", "signs"] [] := F_end_of.bindsN fun _ _ _ _ _ _ us hl => match us, hl with | [_, _, _], _ => rfl
  obtain ⟨fd_group_end, F0_group_end⟩ := c.d.def_ 1 (d := d_group_end) rfl
  have F_group_end : FunD K "group_end" "group_end" (defArgs s_group_end) (defBody s_group_end) (defScope s_group_end) [] [] (ga K "group_end") fd_group_end := F0_group_end
  have m_group_end : mg "group_end" = some (.ref (ga K "group_end")) := glo_ok X Hn (c.d.fact 1 (f := .glo "group_end") rfl)
  have b_group_end : L2.Binds K fd_group_end ["text", "at"] [] := F_group_end.bindsN fun _ _ _ _ _ _ us hl => match us, hl with | [_, _], _ => rfl
  obtain ⟨fd_groups, F0_groups⟩ := c.d.def_ 2 (d := d_groups) rfl
  have F_groups : FunD K "groups" "groups" (defArgs s_groups) (defBody s_groups) (defScope s_groups) [] [] (ga K "groups") fd_groups := F0_groups
  have m_groups : mg "groups" = some (.ref (ga K "groups")) := glo_ok X Hn (c.d.fact 2 (f := .glo "groups") rfl)
  have b_groups : L2.Binds K fd_groups ["text"] [] := F_groups.bindsN fun _ _ _ _ _ _ us hl => match us, hl with | [_], _ => rfl
  obtain ⟨fd_law_box, F0_law_box⟩ := c.d.def_ 3 (d := d_law_box) rfl
  have F_law_box : FunD K "_law_box" "_law_box" (defArgs s_law_box) (defBody s_law_box) (defScope s_law_box) [] [] (ga K "_law_box") fd_law_box := F0_law_box
  have m_law_box : mg "_law_box" = some (.ref (ga K "_law_box")) := glo_ok X Hn (c.d.fact 3 (f := .glo "_law_box") rfl)
  have b_law_box : L2.Binds K fd_law_box ["script"] [] := F_law_box.bindsN fun _ _ _ _ _ _ us hl => match us, hl with | [_], _ => rfl
  obtain ⟨fd_law_take, F0_law_take⟩ := c.d.def_ 4 (d := d_law_take) rfl
  have F_law_take : FunD K "_law_take" "_law_take" (defArgs s_law_take) (defBody s_law_take) (defScope s_law_take) [] [] (ga K "_law_take") fd_law_take := F0_law_take
  have m_law_take : mg "_law_take" = some (.ref (ga K "_law_take")) := glo_ok X Hn (c.d.fact 4 (f := .glo "_law_take") rfl)
  have b_law_take : L2.Binds K fd_law_take ["box", "many"] [] := F_law_take.bindsN fun _ _ _ _ _ _ us hl => match us, hl with | [_, _], _ => rfl
  obtain ⟨fd_law_pick, F0_law_pick⟩ := c.d.def_ 5 (d := d_law_pick) rfl
  have F_law_pick : FunD K "_law_pick" "_law_pick" (defArgs s_law_pick) (defBody s_law_pick) (defScope s_law_pick) [] [] (ga K "_law_pick") fd_law_pick := F0_law_pick
  have m_law_pick : mg "_law_pick" = some (.ref (ga K "_law_pick")) := glo_ok X Hn (c.d.fact 5 (f := .glo "_law_pick") rfl)
  have b_law_pick : L2.Binds K fd_law_pick ["box", "some"] [] := F_law_pick.bindsN fun _ _ _ _ _ _ us hl => match us, hl with | [_, _], _ => rfl
  obtain ⟨fd_law_is, F0_law_is⟩ := c.d.def_ 6 (d := d_law_is) rfl
  have F_law_is : FunD K "_law_is" "_law_is" (defArgs s_law_is) (defBody s_law_is) (defScope s_law_is) [] [] (ga K "_law_is") fd_law_is := F0_law_is
  have m_law_is : mg "_law_is" = some (.ref (ga K "_law_is")) := glo_ok X Hn (c.d.fact 6 (f := .glo "_law_is") rfl)
  have b_law_is : L2.Binds K fd_law_is ["told", "due"] [] := F_law_is.bindsN fun _ _ _ _ _ _ us hl => match us, hl with | [_, _], _ => rfl
  obtain ⟨fd_law_cut, F0_law_cut⟩ := c.d.def_ 7 (d := d_law_cut) rfl
  have F_law_cut : FunD K "_law_cut" "_law_cut" (defArgs s_law_cut) (defBody s_law_cut) (defScope s_law_cut) [] [] (ga K "_law_cut") fd_law_cut := F0_law_cut
  have m_law_cut : mg "_law_cut" = some (.ref (ga K "_law_cut")) := glo_ok X Hn (c.d.fact 7 (f := .glo "_law_cut") rfl)
  have b_law_cut : L2.Binds K fd_law_cut ["text"] [] := F_law_cut.bindsN fun _ _ _ _ _ _ us hl => match us, hl with | [_], _ => rfl
  obtain ⟨fd_law_error, F0_law_error⟩ := c.d.def_ 8 (d := d_law_error) rfl
  have F_law_error : FunD K "_law_error" "_law_error" (defArgs s_law_error) (defBody s_law_error) (defScope s_law_error) [] [] (ga K "_law_error") fd_law_error := F0_law_error
  have m_law_error : mg "_law_error" = some (.ref (ga K "_law_error")) := glo_ok X Hn (c.d.fact 8 (f := .glo "_law_error") rfl)
  have b_law_error : L2.Binds K fd_law_error ["call"] [] := F_law_error.bindsN fun _ _ _ _ _ _ us hl => match us, hl with | [_], _ => rfl
  obtain ⟨fd_law_piece, F0_law_piece⟩ := c.d.def_ 9 (d := d_law_piece) rfl
  have F_law_piece : FunD K "_law_piece" "_law_piece" (defArgs s_law_piece) (defBody s_law_piece) (defScope s_law_piece) [] [] (ga K "_law_piece") fd_law_piece := F0_law_piece
  have m_law_piece : mg "_law_piece" = some (.ref (ga K "_law_piece")) := glo_ok X Hn (c.d.fact 9 (f := .glo "_law_piece") rfl)
  have b_law_piece : L2.Binds K fd_law_piece ["box"] [] := F_law_piece.bindsN fun _ _ _ _ _ _ us hl => match us, hl with | [_], _ => rfl
  obtain ⟨fd_law, F0_law⟩ := c.d.def_ 10 (d := d_law) rfl
  have F_law : FunD K "law" "law" (defArgs s_law) (defBody s_law) (defScope s_law) [] [] (ga K "law") fd_law := F0_law
  have m_law : mg "law" = some (.ref (ga K "law")) := glo_ok X Hn (c.d.fact 10 (f := .glo "law") rfl)
  have bl := FunD.bindsA (ps := ["script"]) F_law fun _ _ _ _ _ _ us hl => match us, hl with | [_], _ => rfl
  obtain rfl : fa0 = ga K "law" := by
    have z := Option.some.inj (hfa.symm.trans m_law)
    injection z
  refine ⟨fd_law, [cT K ("law", none)], sp_law K [((tabOf K (codeOf K ("law", none))), ((("law" : Str) ++ ".<locals>.") ++ "<lambda>"))], ?_, ?_, ?_, fun s v => bl s [v] rfl, ?_, ?_⟩
  · intro p hp
    obtain rfl := List.mem_singleton.mp hp
    exact c.empty _ (by simp [tf])
  · intro p hp
    obtain rfl := List.mem_singleton.mp hp
    exact c.out _ (by simp [tf])
  · intro p hp
    obtain rfl := List.mem_singleton.mp hp
    exact PySem.W.codeHd_of_K X (c.hd _ (by simp [tf]))
  · intro H a ns _ _ hT hS
    refine ⟨a, ns, rfl, hS, fun p hp => ?_, fun _ => rfl⟩
    obtain rfl := List.mem_singleton.mp hp
    exact TabS.nil (hT (cT K ("law", none)) (List.mem_singleton_self _))
  · intro base hK hN hTB
    have C_end_of : Cal R.prog w K mg base 1 "end_of" ["text", "at", "signs"] (sp_end_of K) := cal_of F_end_of (F_end_of.ok sc_end_of (len_end_of) fun cdv A outer s H vs Q E hr hs => ⟨_, w_end_of G  hr, by first | exact p_end_of vs H Q E hs | exact p_end_of G vs H Q E hs⟩) m_end_of b_end_of
    have C_group_end : Cal R.prog w K mg base 2 "group_end" ["text", "at"] (sp_group_end K) := cal_of F_group_end (F_group_end.ok sc_group_end (len_group_end) fun cdv A outer s H vs Q E hr hs => ⟨_, w_group_end G C_end_of hr, by first | exact p_group_end vs H Q E hs | exact p_group_end G vs H Q E hs⟩) m_group_end b_group_end
    have C_groups : Cal R.prog w K mg base 3 "groups" ["text"] (sp_groups K) := cal_of F_groups (F_groups.ok sc_groups (len_groups) fun cdv A outer s H vs Q E hr hs => ⟨_, w_groups G C_group_end hr, by first | exact p_groups vs H Q E hs | exact p_groups G vs H Q E hs⟩) m_groups b_groups
    have C_law_box : Cal R.prog w K mg base 1 "_law_box" ["script"] (sp_law_box K) := cal_of F_law_box (F_law_box.ok sc_law_box (len_law_box) fun cdv A outer s H vs Q E hr hs => ⟨_, w_law_box G  hr, by first | exact p_law_box vs H Q E hs | exact p_law_box G vs H Q E hs⟩) m_law_box b_law_box
    have C_law_take : Cal R.prog w K mg base 1 "_law_take" ["box", "many"] (sp_law_take K) := cal_of F_law_take (F_law_take.ok sc_law_take (len_law_take) fun cdv A outer s H vs Q E hr hs => ⟨_, w_law_take G  hr, by first | exact p_law_take vs H Q E hs | exact p_law_take G vs H Q E hs⟩) m_law_take b_law_take
    have C_law_pick : Cal R.prog w K mg base 2 "_law_pick" ["box", "some"] (sp_law_pick K) := cal_of F_law_pick (F_law_pick.ok sc_law_pick (len_law_pick) fun cdv A outer s H vs Q E hr hs => ⟨_, w_law_pick G C_law_take hr, by first | exact p_law_pick vs H Q E hs | exact p_law_pick G vs H Q E hs⟩) m_law_pick b_law_pick
    have C_law_is : Cal R.prog w K mg base 41 "_law_is" ["told", "due"] (sp_law_is K) := cal_of F_law_is (ok_law_is F_law_is G m_law_is b_law_is 40) m_law_is b_law_is
    have C_law_cut : Cal R.prog w K mg base 1 "_law_cut" ["text"] (sp_law_cut K) := cal_of F_law_cut (F_law_cut.ok sc_law_cut (len_law_cut) fun cdv A outer s H vs Q E hr hs => ⟨_, w_law_cut G  hr, by first | exact p_law_cut vs H Q E hs | exact p_law_cut G vs H Q E hs⟩) m_law_cut b_law_cut
    have C_law_piece : Cal R.prog w K mg base 3 "_law_piece" ["box"] (sp_law_piece K) := cal_of F_law_piece (F_law_piece.ok sc_law_piece (len_law_piece) fun cdv A outer s H vs Q E hr hs => ⟨_, w_law_piece G C_law_pick hr, by first | exact p_law_piece vs H Q E hs | exact p_law_piece G vs H Q E hs⟩) m_law_piece b_law_piece
    have LF : LamF R.prog w K mg base [((tabOf K (codeOf K ("law", none))), ((("law" : Str) ++ ".<locals>.") ++ "<lambda>"))] "_law_error" "call" (codeOf K ("law", none)) (tabOf K (codeOf K ("law", none))) ((("law" : Str) ++ ".<locals>.") ++ "<lambda>") (tt_law_error K) := by
      obtain ⟨oc, od, dV, kV, doc, pm, an, cdv, ct, osl, hfd, lk, hcd, _, _⟩ := F_law_error.ex
      subst hfd
      refine ⟨⟨ga K "_law_error", _, _, _, dV, kV, doc, pm, cdv, ct, oc, an, od, osl, N_law_error, m_law_error, F_law_error.kp, lk, hcd, b_law_error, sc_law_error, rfl, Or.inl rfl, fun X e1 e2 e3 e4 e5 => gives_error G ((c.err e_InvalidText (by simp [es])).1.no "at" (by decide)) ((c.err e_InvalidText (by simp [es])).1.no "why" (by decide)) X e1 e2 e3 e4 e5⟩, hTB (cT K ("law", none)) (List.mem_singleton_self _), List.mem_singleton_self _, fun p hp _ => by rw [List.mem_singleton.mp hp]⟩
    exact okC (at_ := ("law", none)) F_law sc_law len_law fun A outer s H vs Q E hr hs => ⟨_, w_law G C_groups C_law_box C_law_take C_law_pick C_law_is C_law_cut C_law_piece LF hr, p_law vs H Q E hs⟩
end K01
open PySem PySem.W PySem.Calls PyProof.Rows
theorem PySem.Challenge.cw_wholied_k01_whole_texts_cut_into_groups_holds : PySem.Challenge.rw_wholied_k01_whole_texts_cut_into_groups.Holds := by
  w_on; o_law
  refine HandSHeadRun.head_any (r := OpenLaw.row PySem.Challenge.rw_wholied_k01_whole_texts_cut_into_groups) (q := view (OpenLaw.row PySem.Challenge.rw_wholied_k01_whole_texts_cut_into_groups).prog [21]) (H := K01.hk) (ob := K01.ob) (M := 3000) (loose := K01.loose) (d := HandSHeadRun.topDef (OpenLaw.row PySem.Challenge.rw_wholied_k01_whole_texts_cut_into_groups).prog 21) (kwd := []) K01.ob_eq
    (by kernel_rfl) (fun s => by kernel_rfl) K01.run (by kernel_rfl) (by kernel_rfl) (by kernel_rfl) (by rfl) (by first | assumption | decide +kernel) (by decide +kernel) ⟨rfl, rfl, rfl, rfl, rfl, by decide +kernel⟩ ?hw ?hc
  case hw => w_witness2
  case hc =>
    refine LamX.walk_ofTsE (l := PySem.Challenge.rw_wholied_k01_whole_texts_cut_into_groups) (n := 63) (k := 42) (x := "script") (CX := fun w => L2.CX (PySem.Challenge.rw_wholied_k01_whole_texts_cut_into_groups).prog w) rfl (by decide) (by kernel_rfl) ⟨rfl, by decide, by decide⟩ ?F (fun w H s e s' z => by
      obtain ⟨_, _, _, _, _, _, _, _, _, _, _, _, z⟩ := z
      exact z)
    intro w mg fa h Y G hmg0
    obtain ⟨K, KX, c⟩ := Y
    have hmg : mg ("law" : PySem.Str) = some (.ref fa) := by
      have e : (HandSHeadRun.topDef (OpenLaw.row PySem.Challenge.rw_wholied_k01_whole_texts_cut_into_groups).prog 21).name = ("law" : PySem.Str) := by kernel_rfl
      rw [← e]
      exact hmg0
    exact ⟨K, KX, K01.facts KX G hmg c⟩
