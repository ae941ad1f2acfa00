import PyProof.Rows.All
import Wide.All
import OpenK.AllK
import Wide.FinOn
import KE.KSuper
import KE.KSuperObj
import HandS.ForMost
import HandS.ForExc
import HandS.Star
import HandS.Defaults
import HandS.ExcInit
import HandS.ClsMeth
import HandS.IsInst
import HandS.OwnEq
import HandS.More
import PyProof.Rows.ReprR
import PyProof.NeKinds
import HandS.Head0
import HandS.Head1
import HandS.Head2
import HandS.HeadEnd
import HandS.HeadHook1
import HandS.HeadHook2
import HandS.Property
import KE.KNestM
import HandS.FStr
import HandS.MakeKwOnly
import HandS.CallSlots
import HandS.Wide
import HandS.Style
import HandS.Lambda
import PyProof.DictCalls
import PyProof.FitsReplace
import PyProof.StrBlockL
import HandS.Steps
import HandS.EndTab
import PySem.Challenge.RW_pegwright_k04_repetitions_checked
set_option Elab.async false
set_option linter.all false
set_option maxRecDepth 100000
set_option maxHeartbeats 4000000
/-! PgSuper: methods that say super().m(..): own cells beside the class's cell; the body at its code. -/
namespace L2.Pg
open PySem PySem.Spec PyProof.Rows L2

theorem cellsFrom_app : ∀ (nm : List (Str × NameKind)) (n : Nat) (acc : List (Str × Addr)), cellsFrom n nm acc = cellsFrom n nm [] ++ acc
  | [], _, _ => rfl
  | (x, k) :: r, n, acc => by
    unfold cellsFrom
    split
    · rw [cellsFrom_app r (n + 1) ((x, n) :: acc), cellsFrom_app r (n + 1) [(x, n)], List.append_assoc]
      rfl
    · exact cellsFrom_app r n acc
theorem look_app {x : Str} {c : Addr} : ∀ {l r : List (Str × Addr)}, l.lookup x = some c → (l ++ r).lookup x = some c
  | [], _, h => by cases h
  | (y, d) :: l, r, h => by
    rw [List.cons_append]
    simp only [List.lookup] at h ⊢
    split
    · rename_i e
      rw [e] at h
      exact h
    · rename_i e
      rw [e] at h
      exact look_app h
theorem of_look_app {x : Str} {c : Addr} : ∀ {l r : List (Str × Addr)}, (l ++ r).lookup x = some c → l.lookup x = some c ∨ (l.lookup x = none ∧ r.lookup x = some c)
  | [], _, h => .inr ⟨rfl, h⟩
  | (y, d) :: l, r, h => by
    rw [List.cons_append] at h
    simp only [List.lookup] at h ⊢
    split
    · rename_i e
      rw [e] at h
      exact .inl h
    · rename_i e
      rw [e] at h
      exact of_look_app h

section
variable {M : Model} {A : Around} {E : Value → Shared → Prop} {t0 s : Shared} {m cm : Str → Option Value} {env : Env} {cs : List (Str × Addr)}
theorem stL {n : Str} {v : Value} {Q : Unit → Shared → Prop} (x : InCallC t0 env.locals m cs cm s) (hk : env.scope.kind = .function) (hl : env.kindOf n = some .local)
    (h : ∀ s', InCallC t0 env.locals (fun y => if y = n then some v else m y) cs cm s' → Q () s') :
    wpAny M A (storeName env n v) Q E s := by
  refine wpAny_storeName_local hl x.toInCall.ns
    (fun h' hn' hs' => h _ ⟨⟨?_, hn', fun b o e => ?_, x.toInCall.fresh⟩, fun k c hc => ?_, x.apart, x.above⟩)
    (by rw [hk]; rfl)
  · obtain ⟨h1, tk, rfl⟩ := x.toInCall.same
    exact ⟨h', _, rfl⟩
  · have lt := Nat.lt_of_lt_of_le (Heap.lt_size e) x.toInCall.fresh
    exact hs'.extBut b o (Nat.ne_of_lt lt) (x.toInCall.keep b o e)
  · have gt := x.above k c (mem_of_lookup hc)
    exact (x.cell k c hc).sameBut hs' (Nat.ne_of_gt gt)
theorem stC {n : Str} {c : Addr} {v : Value} {Q : Unit → Shared → Prop} (x : InCallC t0 env.locals m cs cm s) (hk : env.scope.kind = .function) (hl : env.kindOf n = some .cell)
    (hc : cs.lookup n = some c) (he : env.cells.lookup n = some c)
    (h : ∀ s', InCallC t0 env.locals m cs (fun y => if y = n then some v else cm y) s' → Q () s') :
    wpAny M A (storeName env n v) Q E s := by
  have hLc := x.above n c (mem_of_lookup hc)
  refine wpAny_storeName_cell hk hl he (x.cell n c hc)
    fun h' hc' hs' => h _ ⟨⟨?_, x.toInCall.ns.sameBut hs' (Nat.ne_of_lt hLc), fun b o e => ?_, x.toInCall.fresh⟩, fun k c' hk' => ?_, x.apart, x.above⟩
  · obtain ⟨h1, tk, rfl⟩ := x.toInCall.same
    exact ⟨h', _, rfl⟩
  · have lt := Nat.lt_of_lt_of_le (Heap.lt_size e) x.toInCall.fresh
    exact hs'.extBut b o (Nat.ne_of_lt (Nat.lt_trans lt hLc)) (x.toInCall.keep b o e)
  · by_cases hkn : k = n
    · subst hkn
      rw [hc] at hk'
      cases hk'
      simpa using hc'
    · rw [if_neg hkn]
      refine (x.cell k c' hk').sameBut hs' fun e => hkn ?_
      exact name_of_addr x.apart (mem_of_lookup hk') (e ▸ mem_of_lookup hc)
theorem bindPs (f : Str × Value → PUnit → Sem (ForInStep PUnit)) (hf : ∀ n v u, f (n, v) u = (do storeName env n v; pure (.yield ⟨⟩))) (hk : env.scope.kind = .function)
    (hcs : ∀ x c, cs.lookup x = some c → env.cells.lookup x = some c) :
    ∀ (bs : List (Str × Value)) (m cm : Str → Option Value) (s : Shared) (Q : PUnit → Shared → Prop), InCallC t0 env.locals m cs cm s →
      (∀ x ∈ bs, env.kindOf x.1 = some .local ∨ (env.kindOf x.1 = some .cell ∧ (cs.lookup x.1).isSome = true)) →
      (∀ s', InCallC t0 env.locals (bindL env.kindOf bs m) cs (bindC env.kindOf bs cm) s' → Q ⟨⟩ s') → wpAny M A (forIn bs ⟨⟩ f) Q E s
  | [], m, cm, s, Q, x, _, h => by
    rw [List.forIn_nil]
    exact wpAny_pure (h s x)
  | (n, v) :: r, m, cm, s, Q, x, hkind, h => by
    rw [List.forIn_cons, hf]
    have hr := fun y hy => hkind y (List.mem_cons_of_mem _ hy)
    rcases hkind (n, v) List.mem_cons_self with hl | ⟨hl, hc⟩
    · refine wpAny_bind (wpAny_bind (stL x hk hl fun s' x' => wpAny_pure ?_))
      refine bindPs f hf hk hcs r _ _ s' Q x' hr fun s'' x'' => h s'' ?_
      unfold bindL bindC
      rw [if_pos hl, if_pos hl]
      exact x''
    · obtain ⟨c, hc⟩ := Option.isSome_iff_exists.mp hc
      have hnl : ¬ env.kindOf n = some .local := by rw [hl]; decide
      refine wpAny_bind (wpAny_bind (stC x hk hl hc (hcs n c hc) fun s' x' => wpAny_pure ?_))
      refine bindPs f hf hk hcs r _ _ s' Q x' hr fun s'' x'' => h s'' ?_
      unfold bindL bindC
      rw [if_neg hnl, if_neg hnl]
      exact x''
end

/-- the frame of a def with own cells and a closure -/
def envM (qual : Str) (scope : Scope) (cl : List (Str × Addr)) (L f : Addr) (cd : Value) : Env :=
  { scope := scope, locals := L, globals := mainGlobals, cells := cellsFrom (L + 1) scope.names [] ++ cl, qual := qual ++ ".<locals>.",
    func := some f, code := cd, frame := some L, builtins := builtinsNs }
theorem newEnvM {M : Model} {A : Around} {E : Value → Shared → Prop} {s : Shared} {scope : Scope} {bs : List (Str × Value)} {qual : Str} {cl : List (Str × Addr)} {f : Addr} {cd : Value} {Q : Env → Shared → Prop}
    (hk : scope.kind = .function)
    (hkind : ∀ x ∈ bs, scope.names.lookup x.1 = some .local ∨ (scope.names.lookup x.1 = some .cell ∧ ((cellsFrom (s.heap.objs.size + 1) scope.names []).lookup x.1).isSome = true))
    (hQ : ∀ s', InCallC s s.heap.objs.size (bindL (envM qual scope cl s.heap.objs.size f cd).kindOf bs fun _ => none) (cellsFrom (s.heap.objs.size + 1) scope.names [])
        (bindC (envM qual scope cl s.heap.objs.size f cd).kindOf bs fun _ => none) s' → Q (envM qual scope cl s.heap.objs.size f cd) s') :
    wpAny M A (newFunctionEnv scope mainGlobals cl bs (qual ++ ".<locals>.") (some f) cd none builtinsNs) Q E s := by
  simp only [newFunctionEnv, Option.isSome_none, Bool.false_eq_true, if_false]
  refine wpAny_bind (wpAny_alloc ?_)
  refine wpAny_bind (wpAny_layCells _ (fun name kind cells => by cases hkc : kind == NameKind.cell <;> simp [hkc]) _ _ _ _ ?_)
  have ok := cellsFrom_ok scope.names (s.heap.push { cls := .type "frame", data := .dict #[] }) (s.heap.objs.size + 1) []
    ⟨fun _ _ hm => (nomatch hm), List.Pairwise.nil⟩ (by rw [Heap.size_push]; exact Nat.le_refl _)
  rw [Heap.size_push] at ok
  have hsz : ({ s with heap := s.heap.push { cls := .type "frame", data := .dict #[] } } : Shared).heap.objs.size = s.heap.objs.size + 1 := Heap.size_push ..
  rw [hsz, cellsFrom_app scope.names (s.heap.objs.size + 1) cl]
  refine wpAny_bind (bindPs (t0 := s) (env := envM qual scope cl s.heap.objs.size f cd) (cs := cellsFrom (s.heap.objs.size + 1) scope.names [])
    _ (fun _ _ _ => rfl) hk (fun x c h => look_app h) bs (fun _ => none) (fun _ => none) _ _ ⟨⟨⟨_, _, rfl⟩, ?_, fun b o e => ?_, Nat.le_refl _⟩, ?_, ok.apart, ?_⟩ hkind fun s' x => wpAny_pure (hQ s' x))
  · exact (Heap.Ns.new s.heap (.type "frame")).keeps (pushCells_keeps _ _)
  · exact pushCells_keeps _ _ b o (Heap.get?_push_of_some _ e)
  · exact fun n c hc => (ok.empty n c (mem_of_lookup hc)).1
  · exact fun n c hm => (ok.empty n c hm).2
end L2.Pg

namespace L2.Pg
open PySem PySem.Spec PyProof.Rows L2

/-- a method's scope: the one free name is the class's cell -/
structure MScope (N P : List Str) (sc : Scope) : Prop where
  kind : sc.kind = .function
  co : sc.isCoroutine = false
  gen : sc.isGenerator = false
  nd : N.Nodup
  pre : N.take P.length = P
  par : ∀ x ∈ P, sc.names.lookup x = some .local ∨ sc.names.lookup x = some .cell
  free : ∀ y ∈ sc.names, y.2 = .free → y.1 = "__class__"
/-- the context of such a body -/
def cxM (CX : CXT) (P : Program) (w : World) (K : PySem.W.Frag) (mg : Str → Option Value) (base : Heap) (N : List Str) (qual : Str) (scope : Scope) (cc : Addr) (f : Addr) (cd : Value) (A : Around) (outer : List Env) (s : Shared) (H : Hp) (E : XK) : Cx where
  prog := P
  w := w
  K := K
  mg := mg
  base := base
  A := A.deeper (envM qual scope [("__class__", cc)] s.heap.objs.size f cd)
  N := N
  s_0 := s
  H_0 := H
  env := envM qual scope [("__class__", cc)] s.heap.objs.size f cd
  outer := outer
  stack := envM qual scope [("__class__", cc)] s.heap.objs.size f cd :: outer
  ex := []
  calm := true
  fn := fun x => !decide (x = "__class__")
  pn := []
  xe := fun e s' => wpAny (model P w) (A.deeper (envM qual scope [("__class__", cc)] s.heap.objs.size f cd)) (leaving (envM qual scope [("__class__", cc)] s.heap.objs.size f cd) e)
    (fun _ s'' => CX outer H s E e s'') (fun e' s'' => CX outer H s E e' s'') s'

theorem look_one {x y : Str} {a c : Addr} (h : ([(y, a)] : List (Str × Addr)).lookup x = some c) : x = y ∧ c = a := by
  simp only [List.lookup] at h
  split at h
  · rename_i e
    cases h
    exact ⟨by simpa using e, rfl⟩
  · cases h

theorem inv_startM {CX : CXT} {P : Program} {w : World} {K : PySem.W.Frag} {mg : Str → Option Value} {base : Heap} {N ps : List Str} {qual : Str} {scope : Scope} {cc D f : Addr} {cd : Value} {A : Around} {outer : List Env} {s s1 : Shared} {H : Hp} {E : XK} {us : List Value} {vs : List V}
    {oc : Value} {od : Option Addr} {osl : Array (Option Value)} (hcc : K.lookup cc = some ⟨oc, od, .cell (some (.ref D)), osl⟩)
    (S : MScope N ps scope) (hd : A.handled = none) (e0 : Env0 P w K mg base A outer s H) (hl : vs.length = ps.length) (r : Vals vs us)
    (x : InCallC s s.heap.objs.size (bindL (envM qual scope [("__class__", cc)] s.heap.objs.size f cd).kindOf (ps.zip us) fun _ => none) (cellsFrom (s.heap.objs.size + 1) scope.names [])
      (bindC (envM qual scope [("__class__", cc)] s.heap.objs.size f cd).kindOf (ps.zip us) fun _ => none) s1) :
    Inv (cxM CX P w K mg base N qual scope cc f cd A outer s H E) [] (start N vs) H s1 := by
  have hpl : ps.length ≤ N.length := by
    have := congrArg List.length S.pre
    rw [List.length_take] at this
    omega
  obtain ⟨h1, tk, rfl, hk⟩ := x.done
  have ccB : base.get? cc = some ⟨oc, od, .cell (some (.ref D)), osl⟩ := e0.mod.kin _ _ hcc
  obtain ⟨ccS, ccH⟩ := e0.bs _ _ ccB
  have ccLt : cc < s.heap.objs.size := Heap.lt_size ccS
  have own : ∀ y c, (cellsFrom (s.heap.objs.size + 1) scope.names []).lookup y = some c → s.heap.objs.size < c := fun y c h => x.above y c (PySem.mem_of_lookup h)
  have noA : ∀ b : Addr, b ∉ (cxM CX P w K mg base N qual scope cc f cd A outer s H E).ex := fun b z => absurd (show b ∈ ([] : List Addr) from z) (by simp)
  refine ⟨⟨e0.mod, S.kind, rfl, rfl, Nat.le_refl _, fun y z c h1 h2 => ?_, fun y hy => ?_, fun y c hf h => ?_, fun _ => hd, Around.frames_deeper e0.frames, .inr ⟨rfl, rfl⟩, fun b z => absurd z (noA b), e0.bs, e0.bsz, fun b _ _ => noA b, fun b z => absurd z (noA b), e0.funs, e0.frf⟩,
    rfl, e0.bare, Un.kept hk, ⟨_, x.toInCall.ns, fun i y v h1 h2 h3 => ?_⟩, fun y c h => ?_, e0.hok.fresh (Nat.le_refl _), fun y c h => ?_, fun p hp => absurd (show p ∈ ([] : List (Addr × Obj)) from hp) (by simp), e0.hok.kept hk, ?_⟩
  · rcases of_look_app (show (_ ++ _ : List (Str × Addr)).lookup y = some c from h1) with a | ⟨_, a⟩
    · rcases of_look_app (show (_ ++ _ : List (Str × Addr)).lookup z = some c from h2) with b | ⟨_, b⟩
      · exact name_of_addr x.apart (PySem.mem_of_lookup a) (PySem.mem_of_lookup b)
      · have lt := own y c a
        have e2 := (look_one b).2
        subst e2
        exact absurd lt (Nat.not_lt.mpr (Nat.le_of_lt ccLt))
    · rcases of_look_app (show (_ ++ _ : List (Str × Addr)).lookup z = some c from h2) with b | ⟨_, b⟩
      · have lt := own z c b
        have e2 := (look_one a).2
        subst e2
        exact absurd lt (Nat.not_lt.mpr (Nat.le_of_lt ccLt))
      · rw [(look_one a).1, (look_one b).1]
  · rcases (show scope.names.lookup y = some .cell ∨ scope.names.lookup y = some .free from hy) with hy | hy
    · obtain ⟨c, e⟩ := cell_has (n := s.heap.objs.size + 1) hy
      exact ⟨c, look_app e⟩
    · have e := S.free _ (PySem.mem_of_lookup hy) rfl
      have e' : y = "__class__" := e
      subst e'
      cases q : (cellsFrom (s.heap.objs.size + 1) scope.names []).lookup ("__class__" : Str) with
      | some c => exact ⟨c, look_app q⟩
      | none =>
        refine ⟨cc, ?_⟩
        have key : ∀ l : List (Str × Addr), l.lookup ("__class__" : Str) = none → (l ++ [(("__class__" : Str), cc)]).lookup ("__class__" : Str) = some cc := by
          intro l
          induction l with
          | nil => intro _; simp [List.lookup]
          | cons p l ih =>
            obtain ⟨a, b⟩ := p
            intro h
            rw [List.cons_append]
            simp only [List.lookup] at h ⊢
            split
            · rename_i e
              rw [e] at h
              cases h
            · rename_i e
              rw [e] at h
              exact ih h
        exact key _ q
  · rcases of_look_app (show (_ ++ _ : List (Str × Addr)).lookup y = some c from h) with a | ⟨_, a⟩
    · exact Nat.le_of_lt (own y c a)
    · have e := (look_one a).1
      subst e
      exact absurd (show (!decide (("__class__" : Str) = "__class__")) = true from hf) (by simp)
  · have hi : i < vs.length := by
      unfold start at h2
      by_cases hi : i < vs.length
      · exact hi
      · rw [List.getElem?_append_right (by simpa using hi)] at h2
        rw [List.getElem?_replicate] at h2
        split at h2 <;> cases h2
    have ha : vs[i]? = some v := by
      unfold start at h2
      rw [List.getElem?_append_left (by simpa using hi), List.getElem?_map] at h2
      cases e : vs[i]? with
      | none =>
        rw [e] at h2
        cases h2
      | some a =>
        rw [e] at h2
        cases h2
        rfl
    obtain ⟨u, hu, rv⟩ := r.get ha
    have hp : ps[i]? = some y := by
      rw [← S.pre, List.getElem?_take_of_lt (by omega)]
      exact h1
    have ndP : ps.Nodup := by
      rw [← S.pre]
      exact S.nd.sublist (List.take_sublist _ _)
    refine ⟨u, rv, ?_⟩
    rcases S.par y (List.mem_of_getElem? hp) with k | k
    · exact .inl ⟨k, bindL_get ndP hp hu k⟩
    · obtain ⟨c, e⟩ := cell_has (n := s.heap.objs.size + 1) k
      refine .inr ⟨.inl k, c, look_app e, ?_⟩
      have q := x.cell y c e
      rw [bindC_get ndP hp hu (by show scope.names.lookup y ≠ _; rw [k]; decide)] at q
      exact q
  · rcases of_look_app (show (_ ++ _ : List (Str × Addr)).lookup y = some c from h) with a | ⟨_, a⟩
    · exact ⟨_, x.cell y c a⟩
    · obtain ⟨_, rfl⟩ := look_one a
      exact ⟨_, _, hk _ _ ccS, rfl⟩
  · rcases of_look_app (show (_ ++ _ : List (Str × Addr)).lookup y = some c from h) with a | ⟨_, a⟩
    · exact e0.hok.fresh (Nat.le_of_lt (own y c a))
    · obtain ⟨_, rfl⟩ := look_one a
      exact ccH
  · unfold start
    show _ = N.length
    rw [List.length_append, List.length_map, List.length_replicate]
    omega

/-! ### a block at its code -/
structure PSsC (X : Cx) (c : Code) (st : List Stmt) (t : TS) : Prop where
  run : ∀ (pins : List (Addr × Obj)) (s : Shared) (σ : St) (H : Hp) (D : Ends), Inv X pins σ H s → t D σ H → PySem.wpAt (model X.prog X.w) X.A c (execs st X.env) (SP X pins D) X.xe s
structure PSC (X : Cx) (c : Code) (st : Stmt) (t : TS) : Prop where
  run : ∀ (pins : List (Addr × Obj)) (s : Shared) (σ : St) (H : Hp) (D : Ends), Inv X pins σ H s → t D σ H → PySem.wpAt (model X.prog X.w) X.A c (exec st X.env) (SP X pins D) X.xe s
section
variable {X : Cx} {c : Code} {st : Stmt} {rest : List Stmt} {t u : TS}
theorem psc_of (h : PS X st t) : PSC X c st t := ⟨fun pins s σ H D I q => wpAt_of_wpAny (h.run pins s σ H D I q)⟩
theorem pssc_of (h : PSs X rest t) : PSsC X c rest t := ⟨fun pins s σ H D I q => wpAt_of_wpAny (h.run pins s σ H D I q)⟩
theorem pssc_cons (h1 : PSC X c st t) (h2 : PSsC X c rest u) : PSsC X c (st :: rest) (tSeq t u) := by
  refine ⟨fun pins s σ H D I h => ?_⟩
  refine ks_wpAt_execs_cons (ks_wpAt_mono (h1.run pins s σ H { D with nx := u D } I h) (fun f s1 q => ?_) fun _ _ z => z)
  cases f with
  | next =>
    obtain ⟨σ', H', I', q⟩ := q
    exact h2.run pins s1 σ' H' D I' q
  | brk => exact q
  | cont => exact q
  | ret u => exact q
end

theorem fn_ofM {CX : CXT} {P : Program} {w : World} {K : PySem.W.Frag} {mg : Str → Option Value} {base : Heap} {k : Nat} {f cc D : Addr} {name qual : Str} {params : Arguments} {body : List Stmt} {scope : Scope} {dV kV doc pm cdv ct oc ocl : Value} {an od odl : Option Addr}
    {osl osll : Array (Option Value)} {N ps : List Str} {sp : Sp} (lk : K.lookup f = some ⟨oc, od, .func (PySem.W.fnX name qual params body scope [("__class__", cc)] dV kV doc pm an cdv ct), osl⟩)
    (hcc : K.lookup cc = some ⟨ocl, odl, .cell (some (.ref D)), osll⟩) (hcd : PySem.W.codeIn K cdv qual = true) (S : MScope N ps scope)
    (len : ∀ vs H Q E, sp vs H Q E → vs.length = ps.length)
    (hbody : ∀ (A : Around) (outer : List Env) (s : Shared) (H : Hp) (vs : List V) (Q : VK) (E : XK), Room k (A.deeper (envM qual scope [("__class__", cc)] s.heap.objs.size f cdv)) → sp vs H Q E →
      ∃ t, PSsC (cxM CX P w K mg base N qual scope cc f cdv A outer s H E) (.func body (envM qual scope [("__class__", cc)] s.heap.objs.size f cdv)) body t ∧ t { nx := fun _ H' => Q .non H', rt := Q } (start N vs) H) :
    FnOk P w K mg base CX (k + 1) f (PySem.W.fnX name qual params body scope [("__class__", cc)] dV kV doc pm an cdv ct) ps sp := by
  refine ⟨len, fun A outer s H args us vs Q E hr e0 hb r hsp => ?_⟩
  have hl := len _ _ _ _ hsp
  have KX : K.In s.heap := e0.mod.kin.keeps fun b o e => (e0.bs b o e).1
  have lim : s.heap.NoLimit := e0.mod.nolimit.keeps fun b o e => (e0.bs b o e).1
  have hkind : ∀ y ∈ ps.zip us, scope.names.lookup y.1 = some .local ∨ (scope.names.lookup y.1 = some .cell ∧ ((cellsFrom (s.heap.objs.size + 1) scope.names []).lookup y.1).isSome = true) := fun ⟨n, v⟩ hy => by
    rcases S.par n (List.of_mem_zip hy).1 with q | q
    · exact .inl q
    · exact .inr ⟨q, PySem.W.cellsFrom_some _ _ _ (.inl q)⟩
  refine codeAny_call_function hr.depth (KX _ _ lk) rfl S.co S.gen rfl (PySem.W.codeRec_of KX hcd) (hb _ _ _ _ ?_)
  refine newEnvM S.kind hkind fun s1 x => ?_
  refine ⟨lim.keeps x.toInCall.keep, ks_codeAny_funcAt ?_⟩
  obtain ⟨t, ht, hq⟩ := hbody A outer s H vs Q E (hr.deeper _) hsp
  have I : Inv (cxM CX P w K mg base N qual scope cc f cdv A outer s H E) [] (start N vs) H s1 := inv_startM hcc S hr.hd e0 hl r x
  refine ks_wpAt_mono (ht.run [] s1 (start N vs) H _ I hq) (fun fl s' hs => ?_) fun e s' hs => hs
  have fin : ∀ {σ' : St} {H' : Hp} {v : V} {u : Value}, Inv (cxM CX P w K mg base N qual scope cc f cdv A outer s H E) [] σ' H' s' → RelV v u → Q v H' → CE outer P w H s Q u s' :=
    fun {σ' H' v u} J rv q => ⟨v, H', J.os, J.bare, J.base, J.hok, rv, q⟩
  cases fl with
  | ret u =>
    obtain ⟨v, σ', H', J, rv, q⟩ := hs
    exact fin J rv q
  | next =>
    obtain ⟨σ', H', J, q⟩ := hs
    exact fin (v := V.non) (u := Value.none) J rfl q
  | brk =>
    obtain ⟨_, _, _, q⟩ := hs
    exact False.elim q
  | cont =>
    obtain ⟨_, _, _, q⟩ := hs
    exact False.elim q
end L2.Pg

namespace L2.Pg
open PySem PySem.Spec PyProof.Rows L2

/-- an expression at its code -/
structure PEC (X : Cx) (c : Code) (e : Expr) (t : TE) : Prop where
  run : ∀ (pins : List (Addr × Obj)) (s : Shared) (σ : St) (H : Hp) (Q : VK), Inv X pins σ H s → t σ H Q → PySem.wpAt (model X.prog X.w) X.A c (eval e X.env) (EP X pins σ Q) X.xe s
theorem psc_expr {X : Cx} {c : Code} {e : Expr} {te : TE} {pos : Pos} (he : PEC X c e te) (hs : swapsWith e none pos.line X.env = pure false := by rfl) : PSC X c (.Expr e pos) (tDrop te) := by
  refine ⟨fun pins s σ H D I h => ?_⟩
  exact ks_wpAt_Expr_any (ks_wpAt_mono (he.run pins s σ H _ I h) (fun v s1 ⟨x, H1, I1, r1, q1⟩ => ⟨σ, H1, I1, q1⟩) fun _ _ z => z) I.quiet hs

/-- what super() in a method of the class D leans on: the program, the module, the def at f with its code -/
structure SupOk (X : Cx) (D f : Addr) : Prop where
  main : (X.prog.main.scope.names.lookup ("super" : Str)).isSome = false
  mg : X.mg ("super" : Str) = none
  glo : X.env.scope.names.lookup ("super" : Str) = some .globalImplicit
  fre : X.env.scope.names.lookup ("__class__" : Str) = some .free
  slf : X.env.scope.names.lookup ("self" : Str) = some .local
  func : X.env.func = some f
  fd : ∃ (oc : Value) (od : Option Addr) (fd : FuncData) (osl : Array (Option Value)) (ar : Arg), X.K.lookup f = some ⟨oc, od, .func fd, osl⟩ ∧ (fd.params.posonlyargs ++ fd.params.args).head? = some ar ∧ ar.arg = "self"
  code : ∃ (cd : Addr) (oc : Obj) (vs : Array Value) (file : Str) (tk : Tok), X.env.code = .ref cd ∧ X.K.lookup cd = some oc ∧ oc.data = .fields vs ∧ vs[2]? = some (.str file tk) ∧ (X.prog.main.file == file) = true
  cell : ∃ (cc : Addr) (oc : Obj), X.env.cells.lookup ("__class__" : Str) = some cc ∧ X.K.lookup cc = some oc ∧ oc.data = .cell (some (.ref D))
  cls : ∃ cd, PySem.W.clsIn X.K D = some cd
  opq : PySem.W.nsIn X.K cStatics "thirdparty.any" = some none

/-- super().m(..) in a method of the class D: g is found behind D in the class's row -/
def tSup (K : PySem.W.Frag) (D g : Addr) (m : Str) (sp : Sp) (E : XK) (t : TA) : TE := fun σ H Q => ∃ (a C dx : Addr) (fs : List (Str × V)), σ[0]? = some (some (.ref a)) ∧ H a = some (.ins C dx fs) ∧
  (PySem.W.mroIn K C (.ref D) = some true ∧ PySem.W.ks_superIn K C D m = some (some (.ref g))) ∧ t σ H fun vs H1 => sp (.ref a :: vs) H1 Q E

theorem pec_super {X : Cx} {CX : CXT} {k : Nat} {D f g : Addr} {fd : FuncData} {m : Str} {ps : List Str} {sp : Sp} {E : XK} {e : Expr} {es : List Expr} {ta : TA} {p0 p1 apos pos : Pos} {body : List Stmt} {pl : Sem Bool}
    (S : SupOk X D f) (hN : X.N[0]? = some ("self" : Str)) (F : FnOk X.prog X.w X.K X.mg X.base CX k g fd ps sp) (hr : Room k X.A) (hgf : PySem.W.typeIn X.K (.ref g) = some (.type "function")) (hfi : PySem.W.fnIn X.K g = true)
    (hb : Binds X.K fd ps []) (hx : Passes CX X E) (ha : PA X (e :: es) ta) (hat : (m == ("__class__" : Str)) = false := by decide)
    (hst : starEach (e :: es) X.env = (false, eval e X.env) :: starEach es X.env := by rfl) (hpl : (backTo pos (starEach es X.env)).any (·.1) = false := by rfl)
    (ht : eval (.Call (.Attribute (.Call (.Name "super" p0) [] [] p1) m apos) (e :: es) [] pos) X.env = (do
      let ov ← attributeBase (.Call (.Name "super" p0) [] [] p1) m X.env (eval (.Call (.Name "super" p0) [] [] p1) X.env)
      standAt apos.atName
      let (fn, first) ← holding [ov] (getMethod ov m pl)
      callWith pos fn first (backTo pos (starEach (e :: es) X.env)) []) := by rfl) :
    PEC X (.func body X.env) (.Call (.Attribute (.Call (.Name "super" p0) [] [] p1) m apos) (e :: es) [] pos) (tSup X.K D g m sp E ta) := by
  refine ⟨fun pins s σ H Q I h => ?_⟩
  obtain ⟨a, C, dx, fs, h0, hC, ⟨hmro, hsup⟩, hq⟩ := h
  obtain ⟨oc, od, fdm, osl, ar, hf, hpar, har⟩ := S.fd
  obtain ⟨cda, oco, vsc, file, tkf, hco, hcda, hocd, hvs, hfile⟩ := S.code
  obtain ⟨cc, occ, hcl, hcc, hccd⟩ := S.cell
  obtain ⟨cdD, hD⟩ := S.cls
  have KX := I.kIn
  obtain ⟨oD, hD1, hD2⟩ : ∃ oD, s.heap.get? D = some oD ∧ oD.data = .cls cdD := by
    unfold PySem.W.clsIn at hD
    split at hD
    · rename_i ho
      cases hD
      exact ⟨_, KX _ _ ho, rfl⟩
    · cases hD
  obtain ⟨hdx, hfl, hdxa, hax, mA, hns, hrel, hw⟩ := I.hok a _ hC
  have hself : ∃ mm, s.heap.Ns X.env.locals mm ∧ mm "self" = some (.ref a) := by
    obtain ⟨mm, hn, hl⟩ := I.loc
    refine ⟨mm, hn, ?_⟩
    obtain ⟨u, ru, lk⟩ := hl 0 "self" (.ref a) hN h0 (.inl S.slf)
    obtain rfl : u = Value.ref a := ru
    rcases lk with ⟨_, z⟩ | ⟨z, _⟩
    · exact z
    · rw [show X.env.kindOf "self" = some .local from S.slf] at z
      rcases z with z | z <;> cases z
  obtain ⟨mm, hmm, hms⟩ := hself
  refine ks_wpAt_MethodCall (pl := pl) ?_ ht
  refine ks_wpAt_super_base S.glo S.fre hat S.func (KX _ _ hf) rfl hpar hco (KX _ _ hcda) hocd hvs hfile S.main ?_
  obtain ⟨mb, hb1, hb2⟩ := I.mod.blt
  have hboot : bootBuiltins "super" = some (.type "super") := by decide +kernel
  refine PySem.W.ks_loadName_global I.ok.kind S.glo (Calls.loadGlobal_builtin (by rw [I.ok.glob]; exact I.mod.glob.keeps I.bk) S.mg (by rw [I.ok.blt]; exact hb1.keeps I.bk)
    ((hb2 _ (by decide)).trans hboot) ⟨rfl, ?_⟩)
  refine wpAny_loadName_free I.ok.kind S.fre hcl ⟨_, KX _ _ hcc, hccd⟩ ?_
  rw [har]
  refine wpAny_loadName_local I.ok.kind S.slf hmm hms ?_
  refine ks_wpAny_isType_cls hD1 hD2 ⟨rfl, ?_⟩
  have hxnc : ∀ c, (PySem.W.instObj C dx).data ≠ .cls c := fun c z => by cases z
  obtain ⟨hp, gg, dd, tk, os⟩ := s
  refine ks_wpAny_call_super hD1 hD2 hax rfl hxnc (PySem.W.looks_mroIn KX hmro) fun h1 e1 k1 => ?_
  have I1 := I.kept (t' := tk) k1
  have KX1 := I1.kIn
  cases hcC : PySem.W.clsIn X.K C with
  | none =>
    unfold PySem.W.ks_superIn at hsup
    rw [hcC] at hsup
    cases hsup
  | some cdC =>
    unfold PySem.W.ks_superIn at hsup
    rw [hcC] at hsup
    obtain ⟨og, hog, hogc⟩ : ∃ og, X.K.lookup g = some og ∧ og.cls = .type "function" := by
      have z' : (X.K.lookup g).map (·.cls) = some (.type "function") := hgf
      cases z : X.K.lookup g with
      | none =>
        rw [z] at z'
        cases z'
      | some og =>
        rw [z] at z'
        exact ⟨og, rfl, Option.some.inj z'⟩
    have hxC : a ≠ C := by
      intro z
      unfold PySem.W.clsIn at hcC
      split at hcC
      · rename_i ho
        have z1 := KX _ _ ho
        rw [← z, hax] at z1
        cases z1
      · cases hcC
    refine ks_wpAny_getMethod_super e1 (PySem.W.looks_opaque KX1 S.opq) (l₀ := cdC.mro) ?_ rfl KX1 hsup (KX1 _ _ hog) hogc hxC hat ?_
    · exact fun A Q E s k q => wpAny_bind ((PySem.W.looks_clsIn KX1 hcC) A _ E s k (wpAny_pure q))
    · have hq0 : h1.objs.size = h1.objs.size := rfl
      have k2 : ∀ b o, h1.get? b = some o → (h1.push (PySem.W.methodObj (.ref g) (.ref a))).get? b = some o := fun b o z => Heap.get?_push_of_some _ z
      have I2 := I1.kept (t' := tk + 1) k2
      have hq2 : (h1.push (PySem.W.methodObj (.ref g) (.ref a))).get? h1.objs.size = some (PySem.W.methodObj (.ref g) (.ref a)) := Heap.get?_push_at rfl rfl
      have I3 : Inv X ((h1.objs.size, PySem.W.methodObj (.ref g) (.ref a)) :: pins) σ H ⟨h1.push (PySem.W.methodObj (.ref g) (.ref a)), gg, dd, tk + 1, os⟩ := I2.pins_of fun p hp => by
        rcases List.mem_cons.mp hp with z | z
        · subst z
          refine ⟨hq2, I1.hok.fresh (Nat.le_refl _), Nat.ne_of_gt I1.lt, I1.nofs (Nat.le_refl _), fun v z => by cases z⟩
        · exact I2.pin p (List.mem_append_right _ z)
      show wpAny _ _ (callWith pos (Value.ref h1.objs.size) [] (backTo pos (starEach (e :: es) X.env)) []) _ _ _
      rw [hst]
      refine PySem.W.callWith_of (P := PySem.W.MethP X.K h1.objs.size g (.ref a)) (by show ((false || (backTo pos (starEach es X.env)).any (·.1)) || false) = false; rw [hpl]; rfl) (PySem.W.keeps_M hfi) (Calls.evalArgs_plain ?_)
      have hargs := ha.run pos _ _ σ H _ I3 hq
      rw [hst] at hargs
      refine thn hargs fun us s4 ⟨vs, H1, I4, rv, q4⟩ => ?_
      have hm4 := (I4.pin _ (List.mem_append_right _ List.mem_cons_self)).1
      have I5 : Inv X pins σ H1 s4 := I4.pins_of fun p hp => I4.pin p (List.mem_append_right _ (List.mem_cons_of_mem _ hp))
      refine ⟨⟨hm4, I4.kIn⟩, wpAny_call (PySem.W.method_call hm4 ?_)⟩
      have hl := F.len _ _ _ _ q4
      have rr : Vals (V.ref a :: vs) (Value.ref a :: us) := .cons rfl rv
      have hlu : (Value.ref a :: us).length = ps.length := by rw [← rr.length]; exact hl
      have bb := hb s4 (Value.ref a :: us) I5.kIn (by rw [List.append_nil]; exact hlu)
      rw [List.append_nil] at bb
      refine codeAny_mono (F.run X.A X.stack s4 H1 ⟨Value.ref a :: us, []⟩ (Value.ref a :: us) (V.ref a :: vs) Q E hr I5.env0 bb rr q4) fun r s' hq => ?_
      cases r with
      | error ee => exact hx pins σ H1 s4 ee s' I5 hq
      | ok fl =>
        cases fl with
        | ret u => exact I5.after hq
        | next => exact False.elim hq
        | brk => exact False.elim hq
        | cont => exact False.elim hq
end L2.Pg

namespace L2.Pg
open PySem PySem.Spec PyProof.Rows L2
/-- X.__init__(self, ..) of an own class X that takes it from ValueError -/
theorem pe_clsinit {X : Cx} {x : Str} {CI : Addr} {mc : Value} {pl : Sem Bool} {e : Expr} {es : List Expr} {ta : TA} {p1 p2 pos : Pos} (hg : Gl X x) (hm : X.mg x = some (.ref CI)) (cr : ClX.CRead X.K CI mc)
    (cv : PySem.W.findCls X.K (.ref CI) mc "__init__" = some (.val (.builtin "ValueError.__init__"))) (ht : PySem.W.typeIn X.K (.ref CI) = some mc) (ha : PA X (e :: es) ta)
    (hdb : (x == ("__debug__" : Str)) = false := by decide)
    (hc : eval (.Call (.Attribute (.Name x p1) "__init__" p2) (e :: es) [] pos) X.env = (do
      let ov ← eval (.Name x p1) X.env
      standAt p2.atName
      let (f, first) ← holding [ov] (getMethod ov "__init__" pl)
      callWith pos f first (backTo pos (starEach (e :: es) X.env)) (backToKw pos (keywordEach [] X.env))) := by rfl)
    (he : starEach (e :: es) X.env = (false, eval e X.env) :: starEach es X.env := by rfl) (hpl : (backTo pos (starEach es X.env)).any (·.1) = false := by rfl) :
    PE X (.Call (.Attribute (.Name x p1) "__init__" p2) (e :: es) [] pos) (tVeI X.K ta) := by
  refine ⟨fun pins s σ H Q I h => ?_⟩
  refine PySem.W.methodCall_KW (ld_glob I hg hm ?_ hdb) hc
  obtain ⟨m, fr⟩ := I.fr
  refine PySem.W.method_of_cls fr I.ok.mod.kin cr.ga (PySem.W.cls_val fr I.ok.mod.kin ht cr.rd cv (by decide +kernel) ?_)
  show wpAny _ _ (callWith pos (Value.builtin "ValueError.__init__") [] (backTo pos (starEach (e :: es) X.env)) []) _ _ _
  have hrun := fun (t : Nat) => ha.run pos pins { s with toks := t } σ H _ (I.tok t) h
  refine PyProof.Rows.callWith_method1 (thn (hrun _) fun us s1 ⟨vs, H1, I1, r1, a, C, ws, ev, hl, T, ea, q⟩ => ?_) he hpl
  subst ev
  cases r1 with
  | @cons _ u0 _ ur ra rw' =>
    obtain rfl : u0 = Value.ref a := ra
    have hlen : ur.length ≤ sizeLine := by
      rw [← Paired.length rw', sizeLine_eq]
      omega
    exact oinit_ok T I1 ea hlen fun s' J => ⟨.non, H1, J, rfl, q⟩
end L2.Pg

namespace L2.Pg
open PySem PySem.Spec PyProof.Rows L2

section
variable {prog : Program} {w : World} {A : Around} {E : Value → Shared → Prop} {s : Shared} {K : PySem.W.Frag} {x C f : Addr} {ox : Obj} {od : Option Obj} {b tb : Value}
/-- an instance's special method that is a built-in slot of object -/
theorem ifBound_slot {M : Model} {name : Str} {id : String} {args : List Value} {Q : Option Value → Shared → Prop} (X : K.In s.heap) (I : PySem.W.InstAt s.heap x ox C od) (hs : PySem.W.findIn K (.ref C) name = some (some (.builtin id)))
    (hbd : ∀ v : Value, bindSpecial (.builtin id) v = pure (.builtin id, [v]))
    (h : wpAny M A (call (.builtin id) (.ref x :: args)) (fun v => Q (some v)) E s) : wpAny M A (callSpecialIfBound? (.ref x) name args) Q E s := by
  simp only [callSpecialIfBound?, bindSpecialIfBound?]
  refine wpAny_holding (wpAny_bind (wpAny_bind (wpAny_bind (I.type.here ((PySem.W.looks_findIn X hs).here ?_)))))
  refine wpAny_bind (wpAny_askSetting (wpAny_ite ?_))
  have fin : wpAny M A (call (.builtin id) ([.ref x] ++ args) >>= fun v => pure (some v)) Q E s := by
    refine wpAny_bind (wpAny_mono h (fun v s' h' => wpAny_pure h') fun _ _ h' => h')
  split
  · refine wpAny_bind (wpAny_of_eq (hbd _) (wpAny_pure ?_))
    exact fin
  · refine wpAny_tryCatch (wpAny_bind (wpAny_of_eq (hbd _) (wpAny_pure ?_)))
    exact fin
/-- object.__ne__ by the own __eq__ -/
theorem objNe_K (X : K.In s.heap) (I : PySem.W.InstAt s.heap x ox C od) (he : PySem.W.findIn K (.ref C) "__eq__" = some (some (.ref f))) (hf : PySem.W.isFn K (.ref f) = true) (hu : A.units < cLine) {Q : Fin → Shared → Prop}
    (hcall : wpAny (model prog w) A (call (.ref f) [.ref x, b]) (fun v s' => ∃ c, v = .bool c ∧ Q (.done (.ret (.bool (!c)))) s') E s) :
    wpAny (model prog w) A (Builtin.«object.__ne__» ⟨[.ref x, b], []⟩) Q E s := by
  unfold Builtin.«object.__ne__»
  repeat (first
    | with_reducible refine wpAny_cRoomFor hu ?_
    | (refine wpAny_bind (m := callSpecialIfBound? (.ref x) (Str.ofString "__eq__") [b])
        (PySem.W.ifBound_K X I he hf (wpAny_mono hcall (fun r s' hr => by
          obtain ⟨c, rfl, hq⟩ := hr
          repeat (first | exact hq | exact wpAny_pure hq | exact wpAny_truthy_bool hq | (refine wpAny_bind (m := truthy (.bool _)) (wpAny_truthy_bool ?_)) | wp_step)) fun _ _ e => e)))
    | wp_step)
theorem ne_K {L : Addr} {h0 : Heap} {m : Str → Option Value} {Q : Value → Shared → Prop} (hu : A.units + 1 < cLine) (F : Fr h0 L s.heap m) (X0 : K.In h0) (I : PySem.W.InstAt s.heap x ox C od) (hb : PySem.W.Looks (model prog w) s.heap (typeOf b) tb)
    (hn : PySem.W.notFirst K C tb = true) (hs : PySem.W.findIn K (.ref C) "__ne__" = some (some (.builtin "object.__ne__"))) (he : PySem.W.findIn K (.ref C) "__eq__" = some (some (.ref f))) (hf : PySem.W.isFn K (.ref f) = true)
    (hm : PySem.W.mroIn K C (.type "object") = some true)
    (h : wpAny (model prog w) A.in1 (call (.ref f) [.ref x, b]) (fun v s' => ∃ c, v = .bool c ∧ Q (.bool (!c)) s') E s) : wpAny (model prog w) A (richCompare .NotEq (.ref x) b) Q E s := by
  have X := X0.keeps F.keep
  have hu0 : A.units < cLine := Nat.lt_of_succ_lt hu
  have one : wpAny (model prog w) A (tryCompare (.ref x) "__ne__" b) (fun r s' => ∃ v, r = some v ∧ Q v s') E s := by
    unfold tryCompare
    refine wpAny_bind (ifBound_slot X I hs (fun v => PySem.F.cmp_object.ne.bind v) ?_)
    refine wpAny_call (codeAny_call_builtin PySem.F.cmp_object.ne.plain PySem.F.cmpEntry_ne (PySem.W.check_slot PySem.F.cmpKind_ne PySem.F.cmpSplit_ne (I.type.andThen (PySem.W.looks_mroIn X hm)) (PySem.F.cmpArgs_ne _ _) ?_))
    refine objNe_K (A := A.in1) X I he hf (by exact hu) (wpAny_mono h (fun v s' hv => ?_) fun _ _ e => e)
    obtain ⟨c, rfl, hq⟩ := hv
    first
      | exact ⟨c, rfl, wpAny_pure ⟨_, rfl, hq⟩⟩
      | exact ⟨c, rfl, ⟨_, rfl, hq⟩⟩
  unfold richCompare
  simp only [oneThing_ref]
  refine wpAny_holding (wpAny_bind (wpAny_cRoomFor hu0 ?_))
  rw [cmpInfo_NotEq]
  dsimp only
  refine wpAny_bind (I.type.here (wpAny_bind (hb.here ?_)))
  split
  · rename_i q
    have e : PySem.W.subIn K tb (.ref C) = some false := by
      rcases Bool.or_eq_true_iff.mp hn with e | e
      · rw [beq_iff_eq.mp e] at q
        simp at q
      · exact beq_iff_eq.mp e
    refine wpAny_bind ((PySem.W.looks_subIn X e).here ?_)
    simp only [Bool.false_eq_true, if_false]
    refine wpAny_bind (wpAny_mono one (fun r s' z => ?_) fun _ _ e => e)
    obtain ⟨v, rfl, hq⟩ := z
    exact wpAny_pure hq
  · refine wpAny_bind (wpAny_pure ?_)
    simp only [Bool.false_eq_true, if_false]
    refine wpAny_bind (wpAny_mono one (fun r s' z => ?_) fun _ _ e => e)
    obtain ⟨v, rfl, hq⟩ := z
    exact wpAny_pure hq
end

/-- the class at C has the own == at f (taken over or its own), and object's != -/
structure EqOk (K : PySem.W.Frag) (C f : Addr) : Prop where
  eq : PySem.W.findIn K (.ref C) "__eq__" = some (some (.ref f))
  ne : PySem.W.findIn K (.ref C) "__ne__" = some (some (.builtin "object.__ne__"))
  fn : PySem.W.isFn K (.ref f) = true
  ob : PySem.W.mroIn K C (.type "object") = some true
/-- x == y by the own == of x's class -/
def rEqO (K : PySem.W.Frag) (f : Addr) (neg : Bool) (sp : Sp) (E : XK) : R2 := fun x y H Q => ∃ (a C dx : Addr) (fs : List (Str × V)) (t : Value), x = .ref a ∧ H a = some (.ins C dx fs) ∧ EqOk K C f ∧ TyX K H y t ∧ PySem.W.notFirst K C t = true ∧
  sp [.ref a, y] H (fun v H' => ∃ c, v = .bl c ∧ Q (.bl (if neg = true then !c else c)) H') E
section
variable {X : Cx} {CX : CXT} {k : Nat} {f : Addr} {fd : FuncData} {ps : List Str} {sp : Sp} {E : XK}
theorem run_eq {pins : List (Addr × Obj)} {σ : St} {H : Hp} {s : Shared} {Q : VK} {a : Addr} {y : V} {u : Value} {A : Around} (F : FnOk X.prog X.w X.K X.mg X.base CX k f fd ps sp) (hr : Room k A) (hfr : A.frames = X.A.frames) (hb : Binds X.K fd ps []) (hx : Passes CX X E)
    (I : Inv X pins σ H s) (ry : RelV y u) (h : sp [.ref a, y] H Q E) : wpAny (model X.prog X.w) A (call (.ref f) [.ref a, u]) (EP X pins σ Q) X.xe s := by
  have e0 : Env0 X.prog X.w X.K X.mg X.base A X.stack s H := by
    have e := I.env0
    exact ⟨by rw [hfr]; exact e.frames, e.mod, e.bs, e.bsz, e.funs, e.frf, e.hok, e.bare⟩
  have hl := F.len _ _ _ _ h
  have r2 : Vals [V.ref a, y] [Value.ref a, u] := .cons rfl (.cons ry .nil)
  have bb := hb s [Value.ref a, u] I.kIn (by rw [List.append_nil, ← r2.length]; exact hl)
  rw [List.append_nil] at bb
  refine wpAny_call (codeAny_mono (F.run A X.stack s H ⟨[.ref a, u], []⟩ [.ref a, u] [.ref a, y] _ E hr e0 bb r2 h) fun r s' hq => ?_)
  cases r with
  | error e => exact hx pins σ H s e s' I hq
  | ok fl =>
    cases fl with
    | ret w => exact I.after hq
    | next => exact False.elim hq
    | brk => exact False.elim hq
    | cont => exact False.elim hq
theorem op_eqO (F : FnOk X.prog X.w X.K X.mg X.base CX k f fd ps sp) (hr : Room k X.A) (hb : Binds X.K fd ps []) (hx : Passes CX X E) : OpR X (compareOp .Eq) (rEqO X.K f false sp E) := by
  intro pins s σ H x y v u Q I rx ry h
  obtain ⟨a, C, dx, fs, t, rfl, ha, ok, ty, hn, hq⟩ := h
  cases rx
  obtain ⟨mA, J, _⟩ := ins_get I.hok ha
  obtain ⟨od, J, _⟩ := J.look
  obtain ⟨m, hF⟩ := I.fr
  obtain ⟨P, kx, hp, _⟩ := kit_of I ry ty
  show wpAny (model X.prog X.w) X.A (richCompare .Eq (.ref a) u) (EP X pins σ Q) X.xe s
  refine PySem.W.cmp_K (op := .Eq) (tb := t) hr.units0 hF I.ok.mod.kin J (kx.ty _ _ I.kIn hp) hn ok.eq ok.fn ?_
  refine wpAny_mono (run_eq F hr rfl hb hx I ry hq) (fun r s' z => ?_) fun _ _ e => e
  obtain ⟨v, H', I', rv, c, ev, q⟩ := z
  subst ev
  cases rv
  exact ⟨.bl c, H', I', rfl, q⟩
theorem op_neO (F : FnOk X.prog X.w X.K X.mg X.base CX k f fd ps sp) (hr : Room (k + 1) X.A) (hb : Binds X.K fd ps []) (hx : Passes CX X E) : OpR X (compareOp .NotEq) (rEqO X.K f true sp E) := by
  intro pins s σ H x y v u Q I rx ry h
  obtain ⟨a, C, dx, fs, t, rfl, ha, ok, ty, hn, hq⟩ := h
  cases rx
  obtain ⟨mA, J, _⟩ := ins_get I.hok ha
  obtain ⟨od, J, _⟩ := J.look
  obtain ⟨m, hF⟩ := I.fr
  obtain ⟨P, kx, hp, _⟩ := kit_of I ry ty
  show wpAny (model X.prog X.w) X.A (richCompare .NotEq (.ref a) u) (EP X pins σ Q) X.xe s
  refine ne_K (tb := t) (Nat.lt_of_le_of_lt (Nat.add_le_add_left (by decide : 1 ≤ 64) _) hr.units) hF I.ok.mod.kin J (kx.ty _ _ I.kIn hp) hn ok.ne ok.eq ok.fn ok.ob ?_
  have hr1 : Room k X.A.in1 := by
    exact hr.in1
  refine wpAny_mono (run_eq F hr1 rfl hb hx I ry hq) (fun r s' z => ?_) fun _ _ e => e
  obtain ⟨v, H', I', rv, c, ev, q⟩ := z
  subst ev
  cases rv
  exact ⟨c, rfl, .bl (!c), H', I', rfl, q⟩
end
end L2.Pg

namespace L2.Pg
open PySem PySem.Spec PyProof.Rows L2
/-- repr of a list or tuple of data -/
def rRepr (K : PySem.W.Frag) : List V → Hp → VK → Prop := fun xs H Q => ∃ (a : Addr) (d : PyData), xs = [.ref a] ∧ Dp K H (.ref a) d ∧ d.hasDict = false ∧ d.showable = true ∧ d.depth ≤ 60 ∧ d.shown.length ≤ sizeLine ∧ Q (.str d.shown) H
theorem call_reprD {X : Cx} (hg : X.A.guards = some []) (hu : X.A.units + 64 < cLine) : CallR X (.builtin "repr") (rRepr X.K) := by
  intro pins s σ H xs us Q I r h
  obtain ⟨a, d, rfl, hd, hnd, hs, hdp, hsz, q⟩ := h
  obtain ⟨u, rfl, ru⟩ := r.one
  obtain rfl : u = Value.ref a := ru
  obtain ⟨as, rd⟩ := Dp.reads I d (.ref a) (.ref a) hd rfl
  refine PySem.repr_of_reads' rd hs (PyData.noDict_hsm hnd) hg (by omega) (fun _ _ e => e) (fun h' u tk hk => ?_) hsz
  exact ⟨.str d.shown, H, I.kept (t' := tk) hk, ⟨_, rfl⟩, q⟩
/-- tuple != tuple, of lengths that differ, or both empty -/
def rNeLen (K : PySem.W.Frag) : R2 := fun x y H Q => ∃ (a b : Addr) (xs ys : List V), x = .ref a ∧ y = .ref b ∧ SqT K H a xs ∧ SqT K H b ys ∧ (xs.length = 0 ∨ ys.length = 0) ∧ Q (.bl (!decide (xs.length = ys.length))) H
theorem op_neLen {X : Cx} (hu : X.A.units < cLine) : OpR X (compareOp .NotEq) (rNeLen X.K) := by
  intro pins s σ H x y v u Q I rx ry h
  obtain ⟨a, b, xs, ys, rfl, rfl, ha, hb, hz, q⟩ := h
  cases rx
  cases ry
  obtain ⟨its, rv, t1, _⟩ := I.tuple ha
  obtain ⟨its2, rv2, t2, _⟩ := I.tuple hb
  have l1 := rv.length
  have l2 := rv2.length
  refine PySem.SeqAt.RcNeAt.tuples (e := fun _ => false) t1 t2 hu (fun j h1 h2 => ?_) X.prog X.w X.xe _ ?_
  · rw [List.size_toArray] at h1 h2
    omega
  · refine ⟨.bl _, H, I, ?_, q⟩
    show Value.bool _ = Value.bool _
    rw [List.size_toArray, List.size_toArray, ← l1, ← l2]
    rcases hz with z | z
    · rw [z]
      cases ys with
      | nil => rfl
      | cons y ys => rfl
    · rw [z]
      cases xs with
      | nil => rfl
      | cons y ys => rfl
end L2.Pg

/-! what a law's head tells: defs by paths, facts by checks -/
namespace L2.Pg
open PySem PySem.Spec PyProof.Rows L2
open PySem.W (Frag findIn nsIn)
/-- the first field of the record at p -/
def rec0 (K : Frag) (p : Addr) (t : String) : Addr := match PySem.W.recIn K p t with
  | some (.ref g :: _) => g
  | _ => 0
/-- where a def stands: a global; the class x's m; the getter, the setter of the class x's property; a static or class method's -/
inductive Pa where
  | g (x : Str)
  | me (x y : Str)
  | rc (x y : Str) (t : String)
def Pa.at_ (K : Frag) : Pa → Addr
  | .g x => He.ga K x
  | .me x y => He.ma K (He.ga K x) y
  | .rc x y t => rec0 K (He.ma K (He.ga K x) y) t
structure DefP where
  pa : Pa
  name : Str
  qual : Str
  params : Arguments
  body : List Stmt
  scope : Scope
  dfl : List He.Dv := []
  kwd : List (Str × He.Dv) := []
  cls : Option Str := none
def DefP.dvs (K : Frag) (d : DefP) : List V := d.dfl.map (He.Dv.v K)
def DefP.kws (K : Frag) (d : DefP) : List (Str × V) := d.kwd.map fun q => (q.1, q.2.v K)
abbrev FnO2 : Type := Option (Str × Str × Arguments × FuncBody × Scope × Addr × Addr)
def fnObs2 (K : Frag) (a : Addr) : FnO2 := match K.lookup a with
  | some ⟨_, _, .func fd, _⟩ => some (fd.name, fd.qualname, fd.params, fd.body, fd.scope, fd.globals, fd.builtins)
  | _ => none
def DefP.val (d : DefP) : FnO2 := some (d.name, d.qual, d.params, .stmts d.body, d.scope, mainGlobals, builtinsNs)
/-- the code object's file -/
def fileB (K : Frag) (cd : Value) : Bool := match cd with
  | .ref c => (match K.lookup c with
    | some ⟨_, _, .fields vs, _⟩ => (match vs.toList with
      | _ :: _ :: .str f _ :: _ => decide (f = "/claim/cut.py")
      | _ => false)
    | _ => false)
  | _ => false
def cloB (K : Frag) (cl : List (Str × Addr)) : Option Str → Bool
  | none => cl.isEmpty
  | some x => (match cl with
    | [(n, c)] => decide (n = "__class__") && (match K.lookup c with
      | some ⟨_, _, .cell (some (.ref D)), _⟩ => decide (D = He.ga K x)
      | _ => false)
    | _ => false)
def DefP.ok (K : Frag) (d : DefP) : Bool := PySem.W.keepIn K (.ref (d.pa.at_ K)) && (match K.lookup (d.pa.at_ K) with
  | some ⟨oc, _, .func fd, _⟩ => (match oc with
      | .type t => decide (t = "function")
      | _ => false) && (PySem.W.codeIn K fd.code d.qual && (fileB K fd.code && (cloB K fd.closure d.cls && (He.dflB K fd.defaults (d.dvs K) && He.kwdB K fd.kwdefaults (d.kws K)))))
  | _ => false)
/-- the def at its place -/
def fdAt (K : Frag) (a : Addr) : FuncData := match K.lookup a with
  | some ⟨_, _, .func fd, _⟩ => fd
  | _ => PySem.W.fnOf "" "" ⟨[], [], none, [], [], none, []⟩ [] ⟨.function, [], false, false, []⟩ .none .none .none .none none .none .none
structure DefOk (K : Frag) (d : DefP) : Prop where
  keep : PySem.W.keepIn K (.ref (d.pa.at_ K)) = true
  ty : PySem.W.typeIn K (.ref (d.pa.at_ K)) = some (.type "function")
  ex : ∃ (oc : Value) (od : Option Addr) (cl : List (Str × Addr)) (dV kV doc pm : Value) (an : Option Addr) (cdv ct : Value) (osl : Array (Option Value)),
    K.lookup (d.pa.at_ K) = some ⟨oc, od, .func (PySem.W.fnX d.name d.qual d.params d.body d.scope cl dV kV doc pm an cdv ct), osl⟩ ∧ PySem.W.codeIn K cdv d.qual = true ∧ fileB K cdv = true ∧ cloB K cl d.cls = true ∧
      DflV K dV (d.dvs K) ∧ KwdV K kV (d.kws K)
theorem and2 {a b : Bool} (h : (a && b) = true) : a = true ∧ b = true := Bool.and_eq_true_iff.mp h
theorem DefP.get {K : Frag} {d : DefP} (e : fnObs2 K (d.pa.at_ K) = d.val) (c : d.ok K = true) : DefOk K d := by
  obtain ⟨kp, c2⟩ := and2 c
  unfold fnObs2 at e
  cases q : K.lookup (d.pa.at_ K) with
  | none =>
    rw [q] at c2
    cases c2
  | some o =>
    obtain ⟨oc, od, dt, osl⟩ := o
    rw [q] at c2 e
    cases dt with
    | func fd =>
      obtain ⟨n1, n2, n3, n4, n5, n6, n7, n8, n9, n10, n11, n12, n13, n14, n15⟩ := fd
      have e2 : (some (n1, n2, n3, n4, n5, n6, n15) : FnO2) = some (d.name, d.qual, d.params, .stmts d.body, d.scope, mainGlobals, builtinsNs) := e
      simp only [Option.some.injEq, Prod.mk.injEq] at e2
      obtain ⟨h1, h2, h3, h4, h5, h6, h8⟩ := e2
      subst h1 h2 h3 h4 h5 h6 h8
      obtain ⟨k0, c3⟩ := and2 c2
      obtain ⟨k1, c4⟩ := and2 c3
      obtain ⟨k2, c5⟩ := and2 c4
      obtain ⟨k3, c6⟩ := and2 c5
      obtain ⟨k4, k5⟩ := and2 c6
      have tt : oc = .type "function" := by
        cases oc with
        | type t => exact congrArg Value.type (of_decide_eq_true k0)
        | _ => cases k0
      refine ⟨kp, ?_, ⟨oc, od, n7, n8, n9, n10, n11, n12, n13, n14, osl, q, k1, k2, k3, He.dflB_ok k4, He.kwdB_ok k5⟩⟩
      show (K.lookup _).map (·.cls) = _
      rw [q]
      exact congrArg some tt
    | _ => cases c2
theorem DefOk.funD {K : Frag} {d : DefP} (h : DefOk K d) (hc : d.cls = none) : FunD K d.name d.qual d.params d.body d.scope (d.dvs K) (d.kws K) (d.pa.at_ K) (fdAt K (d.pa.at_ K)) := by
  obtain ⟨oc, od, cl, dV, kV, doc, pm, an, cdv, ct, osl, lk, cd, fl, clo, df, kw⟩ := h.ex
  rw [hc] at clo
  have ec : cl = [] := List.isEmpty_iff.mp clo
  subst ec
  have efd : fdAt K (d.pa.at_ K) = PySem.W.fnOf d.name d.qual d.params d.body d.scope dV kV doc pm an cdv ct := by
    unfold fdAt
    rw [lk] <;> rfl
  exact ⟨⟨oc, od, dV, kV, doc, pm, an, cdv, ct, osl, efd, by rw [efd]; exact lk, cd, df, kw⟩, h.keep⟩
theorem DefOk.fnIn {K : Frag} {d : DefP} (h : DefOk K d) : PySem.W.fnIn K (d.pa.at_ K) = true := by
  obtain ⟨oc, od, cl, dV, kV, doc, pm, an, cdv, ct, osl, lk, _⟩ := h.ex
  unfold PySem.W.fnIn
  rw [lk] <;> rfl
theorem DefOk.isFn {K : Frag} {d : DefP} (h : DefOk K d) : PySem.W.isFn K (.ref (d.pa.at_ K)) = true := by
  unfold PySem.W.isFn
  rw [h.ty]
  exact beq_self_eq_true _

/-! ### facts -/
/-- a written value -/
def eqV (a : Option (Option Value)) (b : V) : Bool := match a with
  | some (some u) => He.relB b u
  | _ => false
theorem eqV_ok {a : Option (Option Value)} {b : V} (h : eqV a b = true) : ∃ u, a = some (some u) ∧ RelV b u := by
  unfold eqV at h
  split at h
  · exact ⟨_, rfl, He.relB_ok h⟩
  · cases h
structure InsOk (K : Frag) (C : Addr) : Prop where
  cl : Cls K C
  ha : findIn K (.ref C) "__class__" = some (some (.builtin "object.__class__"))
  hn : PySem.W.specialIn K (.builtin "object.__class__") "__get__" = some (some (.builtin "getset_descriptor.__get__"))
  ht : PySem.W.takesIn K (.builtin "object.__class__") = some true
  hm : PySem.W.mroIn K C (.type "object") = some true
theorem InsOk.ty {K : Frag} {C a dx : Addr} {fs : List (Str × V)} {H : Hp} (i : InsOk K C) (e : H a = some (.ins C dx fs)) : TyX K H (.ref a) (.ref C) := .base (.ins e i.cl i.ha i.hn i.ht i.hm)
def insB (K : Frag) (C : Addr) : Bool :=
  PySem.W.plainGet K C Str.empty && (PySem.W.hasDictIn K C && (PySem.W.plainOver K C && (He.eqO (findIn K (.ref C) "__setattr__") (some (some (.builtin "object.__setattr__"))) &&
    (He.eqO (findIn K (.ref C) "__class__") (some (some (.builtin "object.__class__"))) && (He.eqO (PySem.W.specialIn K (.builtin "object.__class__") "__get__") (some (some (.builtin "getset_descriptor.__get__"))) &&
      (decide (PySem.W.takesIn K (.builtin "object.__class__") = some true) && decide (PySem.W.mroIn K C (.type "object") = some true)))))))
theorem insB_ok {K : Frag} {C : Addr} (h : insB K C = true) : InsOk K C := by
  obtain ⟨h1, h⟩ := and2 h
  obtain ⟨h2, h⟩ := and2 h
  obtain ⟨h3, h⟩ := and2 h
  obtain ⟨h4, h⟩ := and2 h
  obtain ⟨h5, h⟩ := and2 h
  obtain ⟨h6, h⟩ := and2 h
  obtain ⟨h7, h8⟩ := and2 h
  exact ⟨⟨h1, h2, h3, He.eqO_ok h4⟩, He.eqO_ok h5, He.eqO_ok h6, of_decide_eq_true h7, of_decide_eq_true h8⟩
def mkB (K : Frag) (C f : Addr) : Bool := PySem.W.makesIn K C && (He.eqO (findIn K (.ref C) "__init__") (some (some (.ref f))) && (PySem.W.isFn K (.ref f) && PySem.W.keepIn K (.ref C)))
theorem mkB_ok {K : Frag} {C f : Addr} (h : mkB K C f = true) : Mk K C f := by
  obtain ⟨h1, h⟩ := and2 h
  obtain ⟨h2, h⟩ := and2 h
  obtain ⟨h3, h4⟩ := and2 h
  exact ⟨h1, He.eqO_ok h2, h3, h4⟩
def conB (K : Frag) (C : Addr) (f : Str) (v : V) : Bool := eqV (findIn K (.ref C) f) v && (match findIn K (.ref C) f with
  | some (some u) => He.eqO (PySem.W.specialIn K u "__get__") (some none) && !PySem.W.copiedNames.contains f
  | _ => false)
theorem conB_ok {K : Frag} {C : Addr} {f : Str} {v : V} (h : conB K C f v = true) : ∃ u, Con K C f v u := by
  obtain ⟨h1, h2⟩ := and2 h
  obtain ⟨u, e, r⟩ := eqV_ok h1
  rw [e] at h2
  obtain ⟨h3, h4⟩ := and2 h2
  exact ⟨u, e, r, He.eqO_ok h3, by simpa using h4⟩
/-- the class x is an own exception over ValueError with the __init__ at f -/
def oexB (K : Frag) (C : Addr) : Bool := (match K.lookup C with
  | some ⟨.type t, _, .cls cd, sl⟩ => decide (t = "type") && (cd.hasDict && (!cd.hasDel && ((match cd.mro with
      | .ref c :: bm => decide (c = C) && PySem.HandSPX.refsVE bm
      | _ => false) && (match sl.toList with
      | [_, _, _, _, some (.builtin n), _] => decide (n = "ValueError.__new__")
      | _ => false))))
  | _ => false) && (He.eqO (findIn K (.ref C) "__setattr__") (some (some (.builtin "object.__setattr__"))) && (decide (PySem.W.subIn K (.ref C) (.type "BaseException") = some true) &&
    (decide (PySem.W.typeIn K (.ref C) = some (.type "type")) && PySem.W.keepIn K (.ref C))))
theorem oexB_ok {K : Frag} {C : Addr} (h : oexB K C = true) : OexC K C := by
  obtain ⟨h1, h⟩ := and2 h
  obtain ⟨h2, h⟩ := and2 h
  obtain ⟨h3, h⟩ := and2 h
  obtain ⟨h4, h5⟩ := and2 h
  refine ⟨?_, He.eqO_ok h2, of_decide_eq_true h3, of_decide_eq_true h4, h5⟩
  split at h1
  · rename_i t dd cd sl e
    obtain ⟨g1, g⟩ := and2 h1
    obtain ⟨g2, g⟩ := and2 g
    obtain ⟨g3, g⟩ := and2 g
    obtain ⟨g4, g5⟩ := and2 g
    obtain ⟨nm, bs, mro, ns, qn, hd, sn, sb, ab, col, del⟩ := cd
    dsimp only at g2 g3 g4
    subst g2
    have e3 : del = false := by simpa using g3
    subst e3
    cases mro with
    | nil => cases g4
    | cons v bm =>
      cases v with
      | ref c =>
        obtain ⟨k1, k2⟩ := and2 (show (decide (c = C) && PySem.HandSPX.refsVE bm) = true from g4)
        have ec := of_decide_eq_true k1
        subst ec
        have et := of_decide_eq_true g1
        subst et
        obtain ⟨k0, k1', k2', k3, k5, esl⟩ : ∃ k0 k1' k2' k3 k5, sl = #[k0, k1', k2', k3, some (.builtin "ValueError.__new__"), k5] := by
          obtain ⟨l⟩ := sl
          split at g5
          · rename_i a0 a1 a2 a3 n a5 es
            have en := of_decide_eq_true g5
            refine ⟨a0, a1, a2, a3, a5, ?_⟩
            rw [← en]
            exact congrArg Array.mk es
          · cases g5
        exact ⟨nm, qn, ns, bs, bm, sn, sb, ab, col, dd, k0, k1', k2', k3, k5, by rw [e, esl], k2⟩
      | _ => cases g4
  · cases h1

/-! ### dicts of the module with text keys -/
def TabRel : List (Str × V) → List DictEntry → Prop
  | [], [] => True
  | (x, v) :: r, e :: l => (∃ t, e.key = .str x t) ∧ RelV v e.val ∧ TabRel r l
  | _, _ => False
structure KTab (K : Frag) (w : World) (a : Addr) (kvs : List (Str × V)) : Prop where
  nm : (a == sysModules) = false
  ex : ∃ es n, K.lookup a = some ⟨.type "dict", none, .dict es n, #[]⟩ ∧ PySem.W.KeysLit w.params es.toList ∧ TabRel kvs es.toList
def tabRelB : List (Str × V) → List DictEntry → Bool
  | [], [] => true
  | (x, v) :: r, e :: l => (match e.key with
      | .str y _ => decide (x = y)
      | _ => false) && (He.relB v e.val && tabRelB r l)
  | _, _ => false
theorem tabRelB_ok : ∀ {kvs : List (Str × V)} {l : List DictEntry}, tabRelB kvs l = true → TabRel kvs l
  | [], [], _ => trivial
  | [], _ :: _, h => by cases h
  | _ :: _, [], h => by cases h
  | (x, v) :: r, e :: l, h => by
    obtain ⟨h1, h⟩ := and2 h
    obtain ⟨h2, h3⟩ := and2 h
    refine ⟨?_, He.relB_ok h2, tabRelB_ok h3⟩
    split at h1
    · rename_i y t q
      exact ⟨t, by rw [q, of_decide_eq_true h1]⟩
    · cases h1
def ktabB (K : Frag) (x : Str) (kvs : List (Str × V)) : Bool := !(He.ga K x == sysModules) && (match K.lookup (He.ga K x) with
  | some ⟨.type t, none, .dict es _, ⟨[]⟩⟩ => decide (t = "dict") && tabRelB kvs es.toList
  | _ => false)
def ktabH (K : Frag) (x : Str) : List Int := match K.lookup (He.ga K x) with
  | some ⟨_, _, .dict es _, _⟩ => es.toList.map (·.hash)
  | _ => []
theorem ktab_lits {P : Params} : ∀ {kvs : List (Str × V)} {l : List DictEntry}, TabRel kvs l → l.map (·.hash) = kvs.map (fun q => PyData.keyHash P q.1) → PySem.W.KeysLit P l
  | [], [], _, _ => trivial
  | (x, v) :: r, e :: l, ⟨⟨t, h1⟩, _, h3⟩, q => by
    rw [List.map_cons, List.map_cons] at q
    injection q with q1 q2
    exact ⟨⟨x, t, h1, q1⟩, ktab_lits h3 q2⟩
theorem ktab_ok {K : Frag} {w : World} {x : Str} {kvs : List (Str × V)} (h : ktabB K x kvs = true) (q : ktabH K x = kvs.map fun z => PyData.keyHash w.params z.1) : KTab K w (He.ga K x) kvs := by
  obtain ⟨h1, h2⟩ := and2 h
  unfold ktabH at q
  split at h2
  · rename_i t es n e
    obtain ⟨h3, h4⟩ := and2 h2
    rw [e] at q
    have r := tabRelB_ok h4
    refine ⟨by simpa using h1, es, n, ?_, ktab_lits r q, r⟩
    rw [e, of_decide_eq_true h3]
  · cases h2

/-! ### the Hook -/
abbrev Tb : Type := Str × List (Str × V)
abbrev AlP : Type := Bool × List FnO2 × List (List Int)
def obsP (fa : List (Frag → Bool)) (fn : List DefP) (tb : List Tb) (K : Frag) : AlP := ((fa.all fun f => f K) && ((fn.all fun d => d.ok K) && tb.all fun t => ktabB K t.1 t.2), fn.map fun d => fnObs2 K (d.pa.at_ K), tb.map fun t => ktabH K t.1)
def valP (fn : List DefP) (tb : List Tb) (w : World) : AlP := (true, fn.map DefP.val, tb.map fun t => t.2.map fun z => PyData.keyHash w.params z.1)
def SaysP (fa : List (Frag → Bool)) (fn : List DefP) (tb : List Tb) (w : World) (K : Frag) : Prop := obsP fa fn tb K = valP fn tb w
/-- the empty table of code objects of a code object that nothing was made of yet -/
def tabO : Obj := { cls := .none, data := .fields #[] }
def isTab (g : Addr → Option Obj) (a : Addr) : Bool := match g a with
  | some ⟨.none, none, .fields ⟨[]⟩, ⟨[]⟩⟩ => true
  | _ => false
theorem isTab_ok {g : Addr → Option Obj} {a : Addr} (h : isTab g a = true) : g a = some tabO := by
  unfold isTab at h
  split at h
  · rename_i e
    exact e
  · cases h
/-- the code object of a def; its table -/
def codeOf (K : Frag) (d : DefP) : Addr := match (fdAt K (d.pa.at_ K)).code with
  | .ref c => c
  | _ => 0
def tabOf (K : Frag) (d : DefP) : Addr := match K.lookup (codeOf K d) with
  | some ⟨_, _, .fields vs, _⟩ => (match (vs[11]? : Option Value) with
    | some (.ref P) => P
    | _ => 0)
  | _ => 0
def lamB (K : Frag) (g : Addr → Option Obj) (d : DefP) : Bool := isTab g (tabOf K d) && ((K.lookup (tabOf K d)).isNone && (PySem.W.codeHdIn K (codeOf K d) (tabOf K d) && (match (fdAt K (d.pa.at_ K)).code with
  | .ref _ => true
  | _ => false)))
structure LamAt (K : Frag) (h : Heap) (d : DefP) : Prop where
  tab : h.get? (tabOf K d) = some tabO
  no : K.lookup (tabOf K d) = none
  hd : PySem.W.codeHdIn K (codeOf K d) (tabOf K d) = true
  code : (fdAt K (d.pa.at_ K)).code = .ref (codeOf K d)
theorem lamB_ok {K : Frag} {h : Heap} {d : DefP} (e : lamB K h.get? d = true) : LamAt K h d := by
  obtain ⟨e1, e⟩ := and2 e
  obtain ⟨e2, e⟩ := and2 e
  obtain ⟨e3, e4⟩ := and2 e
  refine ⟨isTab_ok e1, Option.isNone_iff_eq_none.mp e2, e3, ?_⟩
  unfold codeOf
  split at e4
  · rename_i c q
    rw [q]
  · cases e4
/-- what an object names: an instance's dict, closure cells, defaults too; a record's fields, a cell's value; no tables -/
def downL : Nat → List Addr
  | 0 => []
  | n + 1 => n :: downL n
def keepG (g : Addr → Option Obj) (n : Nat) : Frag := He.frG g ((mainGlobals :: downL n).filter fun a => !isTab g a)
def obsPG (n : Nat) (fa : List (Frag → Bool)) (fn : List DefP) (tb : List Tb) (lm : List DefP) (g : Addr → Option Obj) : Bool × AlP := (lm.all fun d => lamB (keepG g n) g d, obsP fa fn tb (keepG g n))
def hookP (n : Nat) (fa : List (Frag → Bool)) (fn : List DefP) (tb : List Tb) (lm : List DefP) : PySem.W.Hook where
  α := Bool × AlP
  obs := fun s => obsPG n fa fn tb lm s.heap.get?
  val := fun w => (true, valP fn tb w)
  says := fun w h => ∃ K : Frag, K.In h ∧ SaysP fa fn tb w K ∧ ∀ d ∈ lm, LamAt K h d
  of := fun w s e => ⟨keepG s.heap.get? n, He.frG_in, congrArg (fun z : Bool × AlP => z.2) e, fun d hd => lamB_ok (List.all_eq_true.mp (congrArg (fun z : Bool × AlP => z.1) e) d hd)⟩
  keeps := fun _ _ _ ⟨K, hK, c, l⟩ k => ⟨K, PySem.W.Frag.In.keeps hK k, c, fun d hd => ⟨k _ _ (l d hd).tab, (l d hd).no, (l d hd).hd, (l d hd).code⟩⟩
theorem obsPG_eq {n : Nat} {fa : List (Frag → Bool)} {fn : List DefP} {tb : List Tb} {lm : List DefP} {g : Addr → Option Obj} {s : Shared} (h : ∀ a, g a = s.heap.get? a) : obsPG n fa fn tb lm g = (hookP n fa fn tb lm).obs s := by
  have e : g = s.heap.get? := funext h
  rw [e] <;> rfl
section
variable {fa : List (Frag → Bool)} {fn : List DefP} {tb : List Tb} {w : World} {K : Frag}
theorem SaysP.bools (c : SaysP fa fn tb w K) : ((fa.all fun f => f K) && ((fn.all fun d => d.ok K) && tb.all fun t => ktabB K t.1 t.2)) = true := congrArg (fun z : AlP => z.1) c
theorem SaysP.fact (c : SaysP fa fn tb w K) (i : Nat) {f : Frag → Bool} (h : fa[i]? = some f := by rfl) : f K = true :=
  List.all_eq_true.mp (and2 c.bools).1 f (List.mem_of_getElem? h)
theorem SaysP.def_ (c : SaysP fa fn tb w K) (i : Nat) {d : DefP} (h : fn[i]? = some d := by rfl) : DefOk K d := by
  have c2 := (and2 (and2 c.bools).2).1
  have e : fn.map (fun d => fnObs2 K (d.pa.at_ K)) = fn.map DefP.val := congrArg (fun z : AlP => z.2.1) c
  have e2 : (fn.map fun d => fnObs2 K (d.pa.at_ K))[i]? = (fn.map DefP.val)[i]? := by rw [e]
  rw [List.getElem?_map, List.getElem?_map, h] at e2
  exact DefP.get (Option.some.inj e2) (List.all_eq_true.mp c2 d (List.mem_of_getElem? h))
theorem SaysP.tab_ (c : SaysP fa fn tb w K) (i : Nat) {t : Tb} (h : tb[i]? = some t := by rfl) : KTab K w (He.ga K t.1) t.2 := by
  have c2 := (and2 (and2 c.bools).2).2
  have e : (tb.map fun t => ktabH K t.1) = tb.map fun t => t.2.map fun z => PyData.keyHash w.params z.1 := congrArg (fun z : AlP => z.2.2) c
  have e2 : (tb.map fun t => ktabH K t.1)[i]? = (tb.map fun t => t.2.map fun z => PyData.keyHash w.params z.1)[i]? := by rw [e]
  rw [List.getElem?_map, List.getElem?_map, h] at e2
  exact ktab_ok (List.all_eq_true.mp c2 t (List.mem_of_getElem? h)) (Option.some.inj e2)
end
end L2.Pg

/-! short rules: a function of the module by its name; an own exception raised; operators of several kinds; walks of lists or tuples -/
namespace L2.Pg
open PySem PySem.Spec PyProof.Rows L2
open PySem.W (Frag)
/-- all that stood stands -/
abbrev Ext (H H' : Hp) : Prop := ∀ b o, H b = some o → H' b = some o
theorem Ext.rf {H : Hp} : Ext H H := fun _ _ h => h
theorem Ext.tr {H H1 H2 : Hp} (a : Ext H H1) (b : Ext H1 H2) : Ext H H2 := fun c o h => b c o (a c o h)
theorem Ext.new {H : Hp} {p : Addr} {o : HO} (h : H p = none) : Ext H (upd H p o) := fun b u e => by
  rw [upd_ne (ne_of_none e h)]
  exact e
theorem Ext.free {H H' : Hp} (e : Ext H H') {p : Addr} (h : H' p = none) : H p = none := by
  cases q : H p with
  | none => rfl
  | some o =>
    rw [e _ _ q] at h
    cases h
theorem Ext.seqL {K : Frag} {H H' : Hp} (e : Ext H H') {a : Addr} {xs : List V} (h : SqL K H a xs) : SqL K H' a xs := by
  rcases h with h | h
  · refine .inl ?_
    rcases h with h | ⟨o, h⟩
    · exact .inl (e _ _ h)
    · exact .inr ⟨o, e _ _ h⟩
  · exact .inr h
theorem Ext.seqT {K : Frag} {H H' : Hp} (e : Ext H H') {a : Addr} {xs : List V} (h : SqT K H a xs) : SqT K H' a xs := by
  rcases h with h | h
  · refine .inl ?_
    rcases h with h | ⟨o, h⟩
    · exact .inl (e _ _ h)
    · exact .inr ⟨o, e _ _ h⟩
  · exact .inr h
mutual
theorem Ext.dp {K : Frag} {H H' : Hp} (e : Ext H H') : ∀ {v : V} {d : PyData}, Dp K H v d → Dp K H' v d
  | _, _, .non => .non
  | _, _, .bl b => .bl b
  | _, _, .int i => .int i
  | _, _, .str x => .str x
  | _, _, .lst h a => .lst (e.seqL h) (e.dpAll a)
  | _, _, .tup h a => .tup (e.seqT h) (e.dpAll a)
theorem Ext.dpAll {K : Frag} {H H' : Hp} (e : Ext H H') : ∀ {v : List V} {d : List PyData}, DpAll K H v d → DpAll K H' v d
  | _, _, .nil => .nil
  | _, _, .cons h t => .cons (e.dp h) (e.dpAll t)
end

/-! ### a function of the module -/
structure GFn (P : Program) (w : World) (K : Frag) (mg : Str → Option Value) (base : Heap) (x : Str) (k : Nat) (ps : List Str) (sp : Sp) (dvs : List V) : Prop where
  ex : ∃ (f : Addr) (fd : FuncData) (ds : List Value), mg x = some (.ref f) ∧ PySem.W.keepIn K (.ref f) = true ∧ FnOk P w K mg base (L2.CX P w) k f fd ps sp ∧ Binds K fd ps ds ∧ Vals dvs ds
section
variable {P : Program} {w : World} {K : Frag} {mg : Str → Option Value} {base : Heap} {x : Str} {k : Nat} {ps N : List Str} {sp : Sp} {dvs : List V} {d : DefP}
/-- a plain def's promise, by its body -/
theorem fn_mk (D : DefOk K d) (hc : d.cls = none) (S : FnScope N ps d.scope) (len : ∀ vs H Q E, sp vs H Q E → vs.length = ps.length)
    (hbody : ∀ (cdv : Value) (A : Around) (outer : List Env) (s : Shared) (H : Hp) (vs : List V) (Q : VK) (E : XK), Room k (A.deeper (envOfC d.qual d.scope s.heap.objs.size (d.pa.at_ K) cdv)) → sp vs H Q E →
      ∃ t, PSs (cxOf (L2.CX P w) P w K mg base N d.qual d.scope (d.pa.at_ K) cdv A outer s H E) d.body t ∧ t { nx := fun _ H' => Q .non H', rt := Q } (L2.start N vs) H) :
    FnOk P w K mg base (L2.CX P w) (k + 1) (d.pa.at_ K) (fdAt K (d.pa.at_ K)) ps sp := FunD.ok (D.funD hc) S len hbody
theorem gfn_mk (F : FnOk P w K mg base (L2.CX P w) k (d.pa.at_ K) (fdAt K (d.pa.at_ K)) ps sp) (D : DefOk K d) (hc : d.cls = none) (hdf : d.dfl = []) (hm : mg x = some (.ref (d.pa.at_ K)))
    (hb : ∀ (kV doc pm : Value) (an : Option Addr) (cdv ct : Value) (us : List Value), us.length = ps.length → bindArgs (PySem.W.fnOf d.name d.qual d.params d.body d.scope .none kV doc pm an cdv ct) ⟨us, []⟩ = pure (ps.zip us)) :
    GFn P w K mg base x k ps sp [] := by
  have D2 := D.funD hc
  have e : d.dvs K = [] := by
    unfold DefP.dvs
    rw [hdf] <;> rfl
  rw [e] at D2
  exact ⟨_, _, [], hm, D.keep, F, D2.bindsN hb, .nil⟩
end
section
variable {X : Cx} {W : WX} {x : Str} {k : Nat} {ps : List Str} {sp : Sp} {dvs : List V} {e : Expr} {es : List Expr} {t : TA} {p pos : Pos}
theorem pe_fn (G : GFn X.prog X.w X.K X.mg X.base x k ps sp dvs) (hr : Room k X.A) (hg : Gl X x) (tk : Takes X W) (ha : PA X (e :: es) t) (hdb : (x == ("__debug__" : Str)) = false := by decide)
    (he : starEach (e :: es) X.env = (false, eval e X.env) :: starEach es X.env := by rfl) (hpl : (backTo pos (starEach es X.env)).any (·.1) = false := by rfl) :
    PE X (.Call (.Name x p) (e :: es) [] pos) (tCallSD sp dvs (WE W) t) := by
  obtain ⟨f, fd, ds, hm, hk, F, hb, hd⟩ := G.ex
  exact pe_callSD F hr hg hm hk hb hd (fun σ => passAt tk σ) ha hdb he hpl
end

/-! ### an own exception of the family over ValueError -/
def spErr (C : Addr) (fld : Str) : Sp := fun vs H Q _ => ∃ (a : Addr) (v : V), vs = [.ref a, v] ∧ H a = some (exo a C none) ∧ ∀ d, H d = none → d ≠ a → Q .non (upd (upd H d (exd d [(fld, v)])) a (exo a C (some d)))
structure ErrOk (P : Program) (w : World) (K : Frag) (mg : Str → Option Value) (base : Heap) (x : Str) (C : Addr) (fld : Str) : Prop where
  glo : mg x = some (.ref C)
  oex : OexC K C
  ex : ∃ (f : Addr) (fd : FuncData), PySem.W.findIn K (.ref C) "__init__" = some (some (.ref f)) ∧ PySem.W.typeIn K (.ref f) = some (.type "function") ∧ FnOk P w K mg base (L2.CX P w) 2 f fd ["self", fld] (spErr C fld) ∧ Binds K fd ["self", fld] []
/-- a reading, weakened -/
def clA (t : TA) : TA := fun σ H Q => ∃ Q1, t σ H Q1 ∧ ∀ vs H', Q1 vs H' → Q vs H'
def clE (t : TE) : TE := fun σ H Q => ∃ Q1, t σ H Q1 ∧ ∀ v H', Q1 v H' → Q v H'
theorem pa_cl {X : Cx} {es : List Expr} {t : TA} (h : PA X es t) : PA X es (clA t) := ⟨fun pos pins s σ H Q I ⟨Q1, h1, im⟩ =>
  thn (h.run pos pins s σ H Q1 I h1) fun us s1 ⟨vs, H', I', r, q⟩ => ⟨vs, H', I', r, im vs H' q⟩⟩
theorem pe_cl {X : Cx} {e : Expr} {t : TE} (h : PE X e t) : PE X e (clE t) := ⟨fun pins s σ H Q I ⟨Q1, h1, im⟩ =>
  thn (h.run pins s σ H Q1 I h1) fun u s1 ⟨v, H', I', r, q⟩ => ⟨v, H', I', r, im v H' q⟩⟩
/-- X(e): the error with its field -/
def tErr (C : Addr) (fld : Str) (t : TA) : St → Hp → XK → Prop := fun σ H Q => t σ H fun vs H1 => ∃ v, vs = [v] ∧ ∀ d H', H1 d = none → Ext H1 H' → H' d = some (.xd [(fld, v)]) → Q (.ref C) (some d) H'
theorem pmk_err {X : Cx} {x fld : Str} {C : Addr} {e : Expr} {es : List Expr} {t : TA} {p pos : Pos} (E : ErrOk X.prog X.w X.K X.mg X.base x C fld) (hr : Room 3 X.A) (hg : Gl X x) (ha : PA X (e :: es) t)
    (hdb : (x == ("__debug__" : Str)) = false := by decide)
    (he : starEach (e :: es) X.env = (false, eval e X.env) :: starEach es X.env := by rfl) (hpl : (backTo pos (starEach es X.env)).any (·.1) = false := by rfl) :
    PMk X (.Call (.Name x p) (e :: es) [] pos) (tErr C fld t) := by
  obtain ⟨f, fd, h1, h2, F, hb⟩ := E.ex
  have base := pmk_oex (p := p) (pos := pos) (CX := L2.CX X.prog X.w) (X := X) E.oex h1 h2 F hr hb .nil (passes_call takes0 fun _ _ _ _ z => z) hg E.glo (pa_cl ha) hdb he hpl
  intro pins s σ H Q I h
  refine base pins s σ H Q I ⟨_, h, fun vs H1 q => ?_⟩
  obtain ⟨v, rfl, q⟩ := q
  refine ⟨(by show 1 ≤ 1000; decide), fun a ha => ?_⟩
  refine ⟨a, v, rfl, upd_same, fun d hd hda => ?_⟩
  have hd1 : H1 d = none := by
    rw [upd_ne hda] at hd
    exact hd
  refine ⟨rfl, d, [(fld, v)], upd_same, ?_, hd1, ?_⟩
  · rw [upd_ne hda]
    exact upd_same
  · refine q d _ hd1 (fun b o e => ?_) upd_same
    have nb : b ≠ d := ne_of_none e hd1
    have na : b ≠ a := ne_of_none e ha
    rw [upd_ne nb, del_ne na, upd_ne na, upd_ne nb, upd_ne na]
    exact e
/-- the body of such a class's __init__: Base.__init__(self, text); self.f = f -/
theorem err_read {K : Frag} {C : Addr} {fld : Str} {vs : List V} {H : Hp} {Q : VK} {E : XK} (hfl : ("self" : Str) ≠ fld) (T : OexC K C) (hno : PySem.W.findIn K (.ref C) fld = some none) (h : spErr C fld vs H Q E) (z : Str) :
    tSeq (tDrop (tVeI K (tCons (tVar 0) (tCons (tC (.str z)) tNil)))) (tOst K fld (tVar 0) (tVar 1)) { nx := fun _ H' => Q .non H', rt := Q } (L2.start ["self", fld] vs) H := by
  obtain ⟨a, v, rfl, ha, q⟩ := h
  refine ⟨.ref a, rfl, a, C, [.str z], rfl, (by show 1 ≤ 1000; decide), T, ha, ?_⟩
  refine ⟨v, rfl, .ref a, rfl, a, C, rfl, T, hno, .inl ⟨ha, fun d hd hda => q d hd hda⟩⟩

/-! ### operators of several kinds -/
section
variable {X : Cx} {f : Value → Value → Sem Value} {r1 r2 r3 r4 : R2}
def rOr (r1 r2 : R2) : R2 := fun x y H Q => r1 x y H Q ∨ r2 x y H Q
theorem op_or (h1 : OpR X f r1) (h2 : OpR X f r2) : OpR X f (rOr r1 r2) := fun pins s σ H x y v u Q I rx ry h => by
  rcases h with h | h
  · exact h1 pins s σ H x y v u Q I rx ry h
  · exact h2 pins s σ H x y v u Q I rx ry h
abbrev rAddI : R2 := rI0 fun i j => V.int (i + j)
abbrev rAddS : R2 := fun x y H Q => ∃ i j, x = V.str i ∧ y = V.str j ∧ i.length + j.length ≤ PySem.sizeLine ∧ Q (V.str (i ++ j)) H
def rAddA (K : Frag) : R2 := rOr rAddI (rOr rAddS (rOr rCat (rCatT K)))
theorem op_addA : OpR X (binaryOp .Add) (rAddA X.K) := op_or op_add (op_or op_add_str (op_or op_cat op_catT))
def rEqA (K : Frag) : R2 := rOr rEq (rEqD K)
def rNeA (K : Frag) : R2 := rOr rNe (rOr (rNeD K) (rNeLen K))
theorem op_eqA (hu : X.A.units + 64 < cLine) : OpR X (compareOp .Eq) (rEqA X.K) := op_or op_eq (op_eqD hu)
theorem op_neA (hu : X.A.units + 64 < cLine) : OpR X (compareOp .NotEq) (rNeA X.K) := op_or op_ne (op_or (op_neD hu) (op_neLen (Nat.lt_of_le_of_lt (Nat.le_add_right _ _) hu)))
end
/-! ### walks of a list or a tuple -/
theorem pi_seq {X : Cx} {tg l : Expr} {tl : TE} (h : PE X l tl) : PI X tg l (fun σ H R => iTup X.K tl σ H R ∨ iList X.K tl σ H R) := by
  have a := pi_tup (tg := tg) h
  have b := pi_list (tg := tg) h
  constructor
  intros
  rename_i q
  rcases q with q | q
  · exact a.run _ _ _ _ _ ‹_› q
  · exact b.run _ _ _ _ _ ‹_› q
/-- a comprehension over a tuple or list whose element is reckoned without a change of the heap -/
theorem lc_mapT {K : Frag} {a : Addr} {xs : List V} {te : TE} {i : Nat} {σ : St} {H1 : Hp} {D : Addr} {Qd : Hp → Prop} (f : V → V) (hS : SqT K H1 a xs) (hD : H1 D = none) (hz : xs.length ≤ sizeLine)
    (hte : ∀ (j : Nat) (x : V) (H : Hp), xs[j]? = some x → Ext H1 H → ∀ R : VK, R (f x) H → te ((wipe σ [i]).set i (some x)) H R)
    (hw : ∀ x, wipe ((wipe σ [i]).set i (some x)) [i] = wipe σ [i]) (hd : Qd (upd H1 D (.lst (xs.map f)))) :
    ∃ W : Nat → Nat → Hp → Prop, (∃ m, W 0 m (upd H1 D (.lst []))) ∧ ∀ (n m : Nat) (H : Hp), W n m H → (Itt K a).stop n H ∧ Qd H ∨ (Itt K a).go n H ∧ ∃ Nx : Hp → Prop, (∀ (H' : Hp), Nx H' → ∃ m', m' < m ∧ W (n + 1) m' H') ∧
      ∀ (x : V) (H' : Hp), (Itt K a).yld n H x H' → gName i x (wipe σ [i]) H' fun σ2 H2 => wipe σ2 [i] = wipe σ [i] ∧ tYes σ2 H2 fun b H3 =>
        if b = true then te σ2 H3 fun y H4 => ∃ acc, H4 D = some (HO.lst acc) ∧ acc.length < sizeLine ∧ Nx (upd H4 D (HO.lst (acc ++ [y]))) else Nx H3 := by
  have hn : Ext H1 (upd H1 D (.lst (xs.map f))) := Ext.new hD
  refine lc_tup (K := K) (a := a) (xs := xs) (fun n H => H = upd H1 D (.lst ((xs.take n).map f))) ?_ ?_ ?_ ?_
  · rfl
  · intro n H _ e
    subst e
    exact (Ext.new hD).seqT hS
  · intro n x H hx e
    subst e
    refine ⟨hw x, ?_⟩
    show tYes _ _ _
    unfold tYes
    dsimp only
    rw [if_pos rfl]
    refine hte n x _ hx (Ext.new hD) _ ?_
    have hlt : n < xs.length := by
      rcases Nat.lt_or_ge n xs.length with h | h
      · exact h
      · rw [List.getElem?_eq_none h] at hx
        cases hx
    refine ⟨(xs.take n).map f, upd_same, ?_, ?_⟩
    · rw [List.length_map, List.length_take]
      omega
    · rw [upd_upd]
      have e2 : (xs.take (n + 1)).map f = (xs.take n).map f ++ [f x] := by
        rw [List.take_add_one, hx]
        simp
      rw [e2]
  · intro H e
    subst e
    rw [List.take_length]
    exact hd
end L2.Pg

/-! expressions: their data, how the heap bears them -/
namespace L2.Pg
open PySem PySem.Spec PyProof.Rows L2
open PySem.W (Frag findIn)
inductive Kind where
  | lit | chars | any | ref | seq | choice | rep | gather | ahead | not | cut
  deriving DecidableEq
def Kind.name : Kind → Str
  | .lit => "literal" | .chars => "chars" | .any => "any" | .ref => "ref" | .seq => "sequence" | .choice => "choice" | .rep => "repeat"
  | .gather => "gather" | .ahead => "ahead" | .not => "not" | .cut => "cut"
def Kind.cls : Kind → Str
  | .lit => "Literal" | .chars => "Chars" | .any => "AnyChar" | .ref => "Ref" | .seq => "Sequence" | .choice => "Choice" | .rep => "Repeat"
  | .gather => "Gather" | .ahead => "Ahead" | .not => "Not" | .cut => "Cut"
/-- an expression: its kind, its own values, its parts, its notation -/
inductive Ex where
  | mk (k : Kind) (vals : List PyData) (ps : List Ex) (text : Str)
def Ex.kind : Ex → Kind
  | .mk k _ _ _ => k
def Ex.vals : Ex → List PyData
  | .mk _ v _ _ => v
def Ex.parts : Ex → List Ex
  | .mk _ _ p _ => p
def Ex.text : Ex → Str
  | .mk _ _ _ t => t
mutual
def Ex.size : Ex → Nat
  | .mk _ _ ps _ => 1 + sizes ps
def sizes : List Ex → Nat
  | [] => 0
  | e :: r => e.size + sizes r
end
mutual
def Ex.levels : Ex → Nat
  | .mk _ _ [] _ => 0
  | .mk _ _ (e :: r) _ => 1 + levelsMax e.levels r
def levelsMax (m : Nat) : List Ex → Nat
  | [] => m
  | e :: r => levelsMax (max m e.levels) r
end
mutual
def Ex.key : Ex → PyData
  | .mk k vals ps _ => .tuple [.str k.name, .tuple vals, .tuple (keys ps)]
def keys : List Ex → List PyData
  | [] => []
  | e :: r => e.key :: keys r
end
/-- the attributes of its own that a kind has, from its values and its parts' places -/
def Kind.own (k : Kind) (vals : List V) (ps : List V) : List (Str × V) := match k, vals, ps with
  | .lit, [x], _ => [("value", x)]
  | .chars, [x, y], _ => [("members", x), ("negated", y)]
  | .ref, [x], _ => [("target", x)]
  | .rep, [x, y], [p] => [("item", p), ("low", x), ("high", y)]
  | .gather, _, [p, q] => [("item", p), ("separator", q)]
  | .ahead, _, [p] => [("item", p)]
  | .not, _, [p] => [("item", p)]
  | _, _, _ => []
/-- within the limits -/
structure Ex.Fits (e : Ex) : Prop where
  size : e.size ≤ 40
  levels : e.levels ≤ 6
  text : e.text.length + 8 ≤ 300 * e.size
  lay : e.key.canLay0 = true
  depth : e.key.depth ≤ 2 * e.levels + 2
def exFs (tp ka : Addr) (n l : Nat) (z : Str) (own : List (Str × V)) : List (Str × V) :=
  ("own_parts", .ref tp) :: ("own_size", .int n) :: ("own_levels", .int l) :: ("own_key", .ref ka) :: ("own_text", .str z) :: own
mutual
/-- the heap bears the expression at v -/
def ExAt (K : Frag) (H : Hp) : Ex → V → Prop
  | .mk k vals ps z, v => ∃ (a dx tp va ka : Addr) (vs us : List V), v = .ref a ∧ H a = some (.ins (He.ga K k.cls) dx (exFs tp ka (Ex.mk k vals ps z).size (Ex.mk k vals ps z).levels z (k.own us vs))) ∧
      SqT K H tp vs ∧ ExAll K H ps vs ∧ DpAll K H us vals ∧ Dp K H (.ref ka) (Ex.mk k vals ps z).key ∧ (Ex.mk k vals ps z).Fits
def ExAll (K : Frag) (H : Hp) : List Ex → List V → Prop
  | [], vs => vs = []
  | e :: r, vs => ∃ v rs, vs = v :: rs ∧ ExAt K H e v ∧ ExAll K H r rs
end
mutual
theorem ExAt.mono {K : Frag} {H H' : Hp} (x : Ext H H') : ∀ (e : Ex) (v : V), ExAt K H e v → ExAt K H' e v
  | .mk k vals ps z, v, h => by
    unfold ExAt at h ⊢
    obtain ⟨a, dx, tp, va, ka, vs, us, h1, h2, h3, h4, h5, h6⟩ := h
    obtain ⟨h6, h7⟩ := h6
    exact ⟨a, dx, tp, va, ka, vs, us, h1, x _ _ h2, x.seqT h3, ExAll.mono x ps vs h4, x.dpAll h5, x.dp h6, h7⟩
theorem ExAll.mono {K : Frag} {H H' : Hp} (x : Ext H H') : ∀ (es : List Ex) (vs : List V), ExAll K H es vs → ExAll K H' es vs
  | [], vs, h => by
    unfold ExAll at h ⊢
    exact h
  | e :: r, vs, h => by
    unfold ExAll at h ⊢
    obtain ⟨v, rs, h1, h2, h3⟩ := h
    exact ⟨v, rs, h1, ExAt.mono x e v h2, ExAll.mono x r rs h3⟩
end
/-- what is known of the class of a kind: D is Expression, f its == -/
def attrs : List Str := ["own_parts", "own_size", "own_levels", "own_key", "own_text", "value", "members", "negated", "target", "item", "low", "high", "separator"]
structure ExCls (K : Frag) (k : Kind) : Prop where
  ins : InsOk K (He.ga K k.cls)
  na : ∀ f ∈ attrs, NoAttr K (He.ga K k.cls) f
  kind : ∃ u, Con K (He.ga K k.cls) "KIND" (.str k.name) u
  eq : EqOk K (He.ga K k.cls) (He.ma K (He.ga K "Expression") "__eq__")
  sub : PySem.W.kitOne K (.ref (He.ga K k.cls)) (.ref (He.ga K "Expression")) = some true
  mro : PySem.W.mroIn K (He.ga K k.cls) (.ref (He.ga K "Expression")) = some true
  self : PySem.W.mroIn K (He.ga K k.cls) (.ref (He.ga K k.cls)) = some true
  sup : PySem.W.ks_superIn K (He.ga K k.cls) (He.ga K k.cls) "__init__" = some (some (.ref (He.ma K (He.ga K "Expression") "__init__")))
  mks : Mk K (He.ga K k.cls) (He.ma K (He.ga K k.cls) "__init__")
  nf : ∀ k2 : Kind, PySem.W.notFirst K (He.ga K k.cls) (.ref (He.ga K k2.cls)) = true
  tyB : ∀ t ∈ (["NoneType", "bool", "int", "str", "list", "tuple", "dict"] : List String), PySem.W.notFirst K (He.ga K k.cls) (.type t) = true
def kinds : List Kind := [.lit, .chars, .any, .ref, .seq, .choice, .rep, .gather, .ahead, .not, .cut]
theorem kinds_all (k : Kind) : k ∈ kinds := by cases k <;> decide
def eqB (K : Frag) (C f : Addr) : Bool := He.eqO (findIn K (.ref C) "__eq__") (some (some (.ref f))) && (He.eqO (findIn K (.ref C) "__ne__") (some (some (.builtin "object.__ne__"))) && (PySem.W.isFn K (.ref f) && decide (PySem.W.mroIn K C (.type "object") = some true)))
theorem eqB_ok {K : Frag} {C f : Addr} (h : eqB K C f = true) : EqOk K C f := by
  obtain ⟨h1, h⟩ := and2 h
  obtain ⟨h2, h⟩ := and2 h
  obtain ⟨h3, h4⟩ := and2 h
  exact ⟨He.eqO_ok h1, He.eqO_ok h2, h3, of_decide_eq_true h4⟩
def exB (k : Kind) (K : Frag) : Bool := insB K (He.ga K k.cls) && ((attrs.all fun f => He.eqO (findIn K (.ref (He.ga K k.cls)) f) (some none)) && (conB K (He.ga K k.cls) "KIND" (.str k.name) && (eqB K (He.ga K k.cls) (He.ma K (He.ga K "Expression") "__eq__") &&
  (decide (PySem.W.kitOne K (.ref (He.ga K k.cls)) (.ref (He.ga K "Expression")) = some true) && (decide (PySem.W.mroIn K (He.ga K k.cls) (.ref (He.ga K "Expression")) = some true) &&
    (decide (PySem.W.mroIn K (He.ga K k.cls) (.ref (He.ga K k.cls)) = some true) &&
      (He.eqO (PySem.W.ks_superIn K (He.ga K k.cls) (He.ga K k.cls) "__init__") (some (some (.ref (He.ma K (He.ga K "Expression") "__init__")))) &&
        (mkB K (He.ga K k.cls) (He.ma K (He.ga K k.cls) "__init__") && ((["NoneType", "bool", "int", "str", "list", "tuple", "dict"].all fun t => PySem.W.notFirst K (He.ga K k.cls) (.type t)) && kinds.all fun k2 => PySem.W.notFirst K (He.ga K k.cls) (.ref (He.ga K k2.cls)))))))))))
theorem exB_ok {k : Kind} {K : Frag} (h : exB k K = true) : ExCls K k := by
  obtain ⟨h1, h⟩ := and2 h
  obtain ⟨h2, h⟩ := and2 h
  obtain ⟨h3, h⟩ := and2 h
  obtain ⟨h4, h⟩ := and2 h
  obtain ⟨h5, h⟩ := and2 h
  obtain ⟨h6, h⟩ := and2 h
  obtain ⟨h7, h⟩ := and2 h
  obtain ⟨h8, h⟩ := and2 h
  obtain ⟨h9, h⟩ := and2 h
  obtain ⟨h10, h11⟩ := and2 h
  exact ⟨insB_ok h1, fun f hf => He.eqO_ok (List.all_eq_true.mp h2 f hf), conB_ok h3, eqB_ok h4, of_decide_eq_true h5, of_decide_eq_true h6, of_decide_eq_true h7, He.eqO_ok h8, mkB_ok h9, fun k2 => List.all_eq_true.mp h11 k2 (kinds_all k2), fun t ht => List.all_eq_true.mp h10 t ht⟩
theorem ExAt.get {K : Frag} {H : Hp} {e : Ex} {v : V} (h : ExAt K H e v) : ∃ (a dx tp ka : Addr) (vs us : List V), v = .ref a ∧ H a = some (.ins (He.ga K e.kind.cls) dx (exFs tp ka e.size e.levels e.text (e.kind.own us vs))) ∧
    SqT K H tp vs ∧ ExAll K H e.parts vs ∧ DpAll K H us e.vals ∧ Dp K H (.ref ka) e.key ∧ e.Fits := by
  obtain ⟨k, vals, ps, z⟩ := e
  unfold ExAt at h
  obtain ⟨a, dx, tp, va, ka, vs, us, h⟩ := h
  exact ⟨a, dx, tp, ka, vs, us, h⟩
theorem Ex.Fits.shaped {e : Ex} (h : e.Fits) : SeqAt.shaped e.key = true := by
  have h1 := h.levels
  have h2 := h.depth
  unfold SeqAt.shaped
  rw [h.lay, Bool.true_and, decide_eq_true]
  omega
theorem lv_le {ps : List Ex} : ∀ m, m ≤ levelsMax m ps ∧ ∀ e ∈ ps, e.levels ≤ levelsMax m ps := by
  induction ps with
  | nil =>
    intro m
    unfold levelsMax
    exact ⟨Nat.le_refl _, fun e h => by cases h⟩
  | cons e r ih =>
    intro m
    unfold levelsMax
    obtain ⟨h1, h2⟩ := ih (max m e.levels)
    refine ⟨by omega, fun x hx => ?_⟩
    rcases List.mem_cons.mp hx with rfl | hx
    · omega
    · exact h2 x hx
theorem lv_parts {k : Kind} {vals : List PyData} {ps : List Ex} {z : Str} : ∀ e ∈ ps, e.levels + 1 ≤ (Ex.mk k vals ps z).levels := by
  intro e he
  cases ps with
  | nil => cases he
  | cons a r =>
    have e0 : (Ex.mk k vals (a :: r) z).levels = 1 + levelsMax a.levels r := by
      rw [Ex.levels]
    rw [e0]
    obtain ⟨h1, h2⟩ := lv_le (ps := r) a.levels
    rcases List.mem_cons.mp he with rfl | he
    · omega
    · have := h2 e he
      omega
theorem keys_lay {ps : List Ex} (h : ∀ e ∈ ps, e.Fits) : PyData.canLayAll0 (keys ps) = true := by
  induction ps with
  | nil => rfl
  | cons e r ih =>
    unfold keys PyData.canLayAll0
    rw [(h e List.mem_cons_self).lay, ih fun x hx => h x (List.mem_cons_of_mem _ hx)] <;> rfl
theorem keys_depth {ps : List Ex} {m : Nat} (h : ∀ e ∈ ps, e.key.depth ≤ m) : PyData.depthAll (keys ps) ≤ m := by
  induction ps with
  | nil =>
    unfold keys PyData.depthAll
    omega
  | cons e r ih =>
    unfold keys PyData.depthAll
    have h1 := h e List.mem_cons_self
    have h2 := ih fun x hx => h x (List.mem_cons_of_mem _ hx)
    omega
theorem fits_of {k : Kind} {vals : List PyData} {ps : List Ex} {z : Str} (hs : (Ex.mk k vals ps z).size ≤ 40) (hl : (Ex.mk k vals ps z).levels ≤ 6) (ht : z.length + 8 ≤ 300 * (Ex.mk k vals ps z).size)
    (hv : PyData.canLayAll0 vals = true) (hd : PyData.depthAll vals = 0) (hp : ∀ e ∈ ps, e.Fits) : (Ex.mk k vals ps z).Fits := by
  refine ⟨hs, hl, ht, ?_, ?_⟩
  · unfold Ex.key
    show (PyData.canLay0 (.str k.name) && (PyData.canLayAll0 vals && (PyData.canLayAll0 (keys ps) && true))) = true
    have hk : PyData.canLay0 (.str k.name) = true := by cases k <;> decide +kernel
    rw [hk, hv, keys_lay hp] <;> rfl
  · unfold Ex.key
    show max 0 (max (PyData.depthAll vals + 1) (max (PyData.depthAll (keys ps) + 1) 0)) + 1 ≤ _
    rw [hd]
    cases ps with
    | nil =>
      show max 0 (max (0 + 1) (max (0 + 1) 0)) + 1 ≤ _
      omega
    | cons e r =>
      have h1 : ∀ x ∈ e :: r, x.key.depth ≤ 2 * (Ex.mk k vals (e :: r) z).levels := fun x hx => by
        have h2 := (hp x hx).depth
        have h3 := lv_parts (k := k) (vals := vals) (z := z) x hx
        omega
      have h2 := keys_depth h1
      have h3 := lv_parts (k := k) (vals := vals) (z := z) e (List.mem_cons_self (l := r))
      omega
/-- the parts fit -/
theorem ExAll.fits {K : Frag} {H : Hp} : ∀ {es : List Ex} {vs : List V}, ExAll K H es vs → ∀ e ∈ es, e.Fits
  | [], _, _, _, h => by cases h
  | e :: r, vs, h, x, hx => by
    unfold ExAll at h
    obtain ⟨v, rs, h1, h2, h3⟩ := h
    rcases List.mem_cons.mp hx with rfl | hx
    · obtain ⟨a, dx, tp, ka, vs', us, _, _, _, _, _, _, hf⟩ := ExAt.get h2
      exact hf
    · exact ExAll.fits h3 x hx
structure ExEnv (K : Frag) : Prop where
  cls : ∀ k, ExCls K k
  isc : PySem.W.isClsIn K (He.ga K "Expression") = true
def exsB (K : Frag) : Bool := (kinds.all fun k => exB k K) && PySem.W.isClsIn K (He.ga K "Expression")
theorem exsB_ok {K : Frag} (h : exsB K = true) : ExEnv K := by
  obtain ⟨h1, h2⟩ := and2 h
  refine ⟨fun k => exB_ok (List.all_eq_true.mp h1 k ?_), h2⟩
  cases k <;> decide
end L2.Pg

/-! the law's end, where what is being shown by repr is known to be nothing -/
namespace L2.Pg
open PySem PySem.Spec PyProof.Rows L2
open PySem.W (Frag findIn)
/-- a promise that is kept where no repr is under way -/
structure FnOkG (P : Program) (w : World) (K : PySem.W.Frag) (mg : Str → Option Value) (base : Heap) (CX : CXT) (k : Nat) (f : Addr) (fd : FuncData) (ps : List Str) (sp : Sp) : Prop where
  len : ∀ vs H Q E, sp vs H Q E → vs.length = ps.length
  run : ∀ (A : Around) (outer : List Env), A.guards = some [] → ∀ (s : Shared) (H : Hp) (args : Args) (us : List Value) (vs : List V) (Q : VK) (E : XK), Room k A → Env0 P w K mg base A outer s H → BindsTo s fd args (ps.zip us) → Vals vs us → sp vs H Q E →
    codeAny (model P w) A (.call (.ref f) args) (CR CX outer P w H s Q E) s
theorem law_callG {P : Program} {w : World} {K : PySem.W.Frag} {mg mb : Str → Option Value} {CX : CXT} {k : Nat} {fa a : Addr} {fd : FuncData} {x : Str} {sp : Sp} {sA : Shared} {vs : List Value} {ns : List Int}
    (kX : K.In sA.heap) (nsH : sA.heap.Ns mainGlobals mg) (bH : sA.heap.Ns builtinsNs mb) (bbH : ∀ x : Str, x ≠ "__name__" → mb x = bootBuiltins x) (limH : sA.heap.NoLimit) (gsH : sA.gens = #[])
    (adH : sA.heap.get? a = some { cls := .type "list", data := .seq vs.toArray }) (iAre : IntsAre vs ns) (lenH : ns.length ≤ sizeLine) (roH : Room k callerA)
    (F : ∀ base : Heap, K.In base → base.Ns mainGlobals mg → FnOkG P w K mg base CX k fa fd [x] sp) (bindH : ∀ (s : Shared) (u : Value), BindsTo s fd ⟨[u], []⟩ [(x, u)])
    (spH : ∀ H : Hp, Only H → SqL K H a (ns.map V.int) → sp [.ref a] H (fun v _ => v = .bl true) fun _ _ _ => False)
    (cxH : ∀ H e s', CX [] H sA (fun _ _ _ => False) e s' → False) :
    codeAny (model P w) callerA (.call (.ref fa) ⟨[.ref a], []⟩) (fun r s' => r = .ok (.ret (.bool true)) ∧ OldK sA.heap s'.heap ∧ s'.os = sA.os ∧ AllBare s'.gens) sA := by
  have vR := vals_ints iAre
  have vL := iAre.length
  -- from an abstract heap in which nothing but the script may be tracked
  have main : ∀ H : Hp, Only H → SqL K H a (ns.map V.int) → HOk P w H sA.heap → (∀ b, H b ≠ none → b = a) → (H a ≠ none → K.lookup a = none) →
      codeAny (model P w) callerA (.call (.ref fa) ⟨[.ref a], []⟩) (fun r s' => r = .ok (.ret (.bool true)) ∧ OldK sA.heap s'.heap ∧ s'.os = sA.os ∧ AllBare s'.gens) sA := by
    intro H oH sH okH aH kH
    have bOf : ∀ {b : Addr} {o : Obj}, sA.heap.get? b = some o → H b = none → (hidT sA.heap H).get? b = some o := fun e n => hidT_get e n
    have nAd : ∀ {b : Addr} {o : Obj} {es : Array DictEntry} {ep : Nat}, sA.heap.get? b = some o → o.data = .dict es ep → H b = none := fun {b o es ep} e d => by
      cases q : H b with
      | none => rfl
      | some u =>
        have e' : b = a := aH b (by rw [q]; simp)
        subst e'
        rw [adH] at e; cases e
        have d' : Data.seq vs.toArray _ = Data.dict es ep := d
        cases d'
    have nKs : ∀ {b : Addr} {m : Str → Option Value}, sA.heap.Ns b m → (hidT sA.heap H).Ns b m := fun {b m} ⟨o, es, ep, e, d, r⟩ => ⟨o, es, ep, bOf e (nAd e d), d, r⟩
    have kBs : K.In (hidT sA.heap H) := fun b o e => bOf (kX b o e) (by
      cases q : H b with
      | none => rfl
      | some u =>
        have e' : b = a := aH b (by rw [q]; simp)
        subst e'
        rw [kH (by rw [q]; simp)] at e; cases e)
    have mOd : Mod K mg (hidT sA.heap H) := ⟨kBs, nKs nsH, ⟨mb, nKs bH, bbH⟩, let ⟨mc, h1, h2⟩ := limH; ⟨mc, nKs h1, h2⟩⟩
    have env : Env0 P w K mg (hidT sA.heap H) callerA [] sA H := ⟨rfl, mOd, fun b o e => of_hidT e, Nat.le_of_eq (hidT_size _ _), trivial, fun b bH => absurd (show b ∈ ([] : List Addr) from bH) (by simp), okH, .of_eq gsH⟩
    refine codeAny_mono ((F _ kBs (nKs nsH)).run callerA [] rfl sA H ⟨[.ref a], []⟩ [.ref a] [.ref a] _ _ roH env (bindH sA (.ref a)) (.cons rfl .nil) (spH H oH sH)) fun r s' h => ?_
    cases r with
    | error e => exact (cxH H e s' h).elim
    | ok fl =>
      cases fl with
      | next => exact False.elim h
      | brk => exact False.elim h
      | cont => exact False.elim h
      | ret u =>
        obtain ⟨v, H', os, baH, unH, okH', r', q⟩ := h
        have q' : v = .bl true := q
        subst q'
        obtain rfl : u = Value.bool true := r'
        refine ⟨rfl, OldK.of_keep fun b o e => ?_, os, baH⟩
        cases q : H b with
        | none => exact unH.keep b o e q (by intro z; exact absurd (show b ∈ ([] : List Addr) from z) (by simp)) (by simp)
        | some u =>
          rcases oH b with z | ⟨ob, xs, z⟩
          · rw [q] at z; cases z
          · have z2 := unH.frzs b ob _ z
            obtain ⟨e1, _⟩ := okH b _ z
            obtain ⟨e2, _⟩ := okH' b _ z2
            rw [e] at e1; cases e1
            exact e2
  cases hk : K.lookup a with
  | some o =>
    -- the script is one of the module's own objects
    have e := kX a o hk
    rw [adH] at e
    cases e
    refine main (fun _ => none) (fun _ => .inl rfl) (.inr ⟨_, vs.toArray, _, hk, rfl, rfl, rfl, by rw [List.size_toArray, vL]; exact lenH, by simpa using vR⟩) (fun b u z => by have z' : (none : Option HO) = some u := z; cases z') (fun b z => absurd rfl z) fun z => absurd rfl z
  | none =>
    refine main (fun b => if b = a then some (.frz { cls := .type "list", data := .seq vs.toArray } (.lst (ns.map V.int))) else none) (fun b => ?_) (.inl (.inr ⟨{ cls := .type "list", data := .seq vs.toArray }, if_pos rfl⟩)) (fun b u z => ?_) (fun b z => ?_) fun _ => hk
    · by_cases bH : b = a
      · exact .inr ⟨_, _, if_pos bH⟩
      · exact .inl (if_neg bH)
    · by_cases bH : b = a
      · have z' := (if_pos bH).symm.trans z
        cases z'
        subst bH
        exact ⟨adH, by rw [List.length_map]; exact lenH, vs, _, vR, adH⟩
      · have z' := (if_neg bH).symm.trans z
        cases z'
    · by_cases bH : b = a
      · exact bH
      · exact absurd (if_neg bH) z
theorem fn_ofG {CX : CXT} {P : Program} {w : World} {K : PySem.W.Frag} {mg : Str → Option Value} {base : Heap} {k : Nat} {f : Addr} {name qual : Str} {params : Arguments} {body : List Stmt} {scope : Scope} {dV kV doc pm cdv ct oc : Value} {an od : Option Addr}
    {osl : Array (Option Value)} {N ps : List Str} {sp : Sp} (lkf : K.lookup f = some ⟨oc, od, .func (PySem.W.fnOf name qual params body scope dV kV doc pm an cdv ct), osl⟩) (cdH : PySem.W.codeIn K cdv qual = true) (SC : FnScope N ps scope)
    (lnH : ∀ vs H Q E, sp vs H Q E → vs.length = ps.length)
    (bodyH : ∀ (A : Around) (outer : List Env), A.guards = some [] → ∀ (s : Shared) (H : Hp) (vs : List V) (Q : VK) (E : XK), Room k (A.deeper (envOfC qual scope s.heap.objs.size f cdv)) → sp vs H Q E →
      ∃ t, PSs (cxOf CX P w K mg base N qual scope f cdv A outer s H E) body t ∧ t { nx := fun _ H' => Q .non H', rt := Q } (start N vs) H) :
    FnOkG P w K mg base CX (k + 1) f (PySem.W.fnOf name qual params body scope dV kV doc pm an cdv ct) ps sp := by
  refine ⟨lnH, fun A outer hgd s H args us vs Q E roH env hb r spH => ?_⟩
  have lenH := lnH _ _ _ _ spH
  have kX : K.In s.heap := env.mod.kin.keeps fun b o e => (env.bs b o e).1
  have limH : s.heap.NoLimit := env.mod.nolimit.keeps fun b o e => (env.bs b o e).1
  have kinds : ∀ y ∈ ps.zip us, scope.names.lookup y.1 = some .local ∨ (scope.names.lookup y.1 = some .cell ∧ ((cellsFrom (s.heap.objs.size + 1) scope.names []).lookup y.1).isSome = true) := fun ⟨n, v⟩ hy => by
    rcases SC.par n (List.of_mem_zip hy).1 with q | q
    · exact .inl q
    · exact .inr ⟨q, PySem.W.cellsFrom_some _ _ _ (.inl q)⟩
  refine codeAny_call_function roH.depth (kX _ _ lkf) rfl SC.co SC.gen rfl (PySem.W.codeRec_of kX cdH) (hb _ _ _ _ ?_)
  refine wpAny_newFunctionEnv_cells SC.kind kinds fun env he s1 xx => ?_
  subst he
  refine ⟨limH.keeps xx.toInCall.keep, codeAny_func ?_⟩
  obtain ⟨t, tH, qH⟩ := bodyH A outer hgd s H vs Q E (roH.deeper _) spH
  have I : Inv (cxOf CX P w K mg base N qual scope f cdv A outer s H E) [] (start N vs) H s1 := inv_start SC roH.hd env lenH r xx
  refine wpAny_mono (tH.run [] s1 (start N vs) H _ I qH) (fun fl s' sH => ?_) fun e s' sH => sH
  have fini : ∀ {σ' : St} {H' : Hp} {v : V} {u : Value}, Inv (cxOf CX P w K mg base N qual scope f cdv A outer s H E) [] σ' H' s' → RelV v u → Q v H' → CE outer P w H s Q u s' :=
    fun {σ' H' v u} J vR q => ⟨v, H', J.os, J.bare, J.base, J.hok, vR, q⟩
  cases fl with
  | ret u =>
    obtain ⟨v, σ', H', J, vR, q⟩ := sH
    exact fini J vR q
  | next =>
    obtain ⟨σ', H', J, q⟩ := sH
    exact fini (v := V.non) (u := Value.none) J rfl q
  | brk =>
    obtain ⟨_, _, _, q⟩ := sH
    exact False.elim q
  | cont =>
    obtain ⟨_, _, _, q⟩ := sH
    exact False.elim q
section
variable {P : Program} {w : World} {K : Frag} {mg : Str → Option Value} {base : Heap} {x : Str} {k : Nat} {ps N : List Str} {sp : Sp} {dvs : List V} {d : DefP}
theorem fn_mkG (D : DefOk K d) (hc : d.cls = none) (S : FnScope N ps d.scope) (len : ∀ vs H Q E, sp vs H Q E → vs.length = ps.length)
    (hbody : ∀ (cdv : Value) (A : Around) (outer : List Env), A.guards = some [] → ∀ (s : Shared) (H : Hp) (vs : List V) (Q : VK) (E : XK), Room k (A.deeper (envOfC d.qual d.scope s.heap.objs.size (d.pa.at_ K) cdv)) → sp vs H Q E →
      ∃ t, PSs (cxOf (L2.CX P w) P w K mg base N d.qual d.scope (d.pa.at_ K) cdv A outer s H E) d.body t ∧ t { nx := fun _ H' => Q .non H', rt := Q } (L2.start N vs) H) :
    FnOkG P w K mg base (L2.CX P w) (k + 1) (d.pa.at_ K) (fdAt K (d.pa.at_ K)) ps sp := by
  obtain ⟨oc, od, dV, kV, doc, pm, an, cdv, ct, osl, efd, lk, hcd, _, _⟩ := (D.funD hc).ex
  rw [efd] at lk ⊢
  exact fn_ofG lk hcd S len fun A outer hg s H vs Q E hr hsp => hbody cdv A outer hg s H vs Q E hr hsp
/-- a function of the law that calls repr -/
structure GFnG (P : Program) (w : World) (K : Frag) (mg : Str → Option Value) (base : Heap) (x : Str) (k : Nat) (ps : List Str) (sp : Sp) (dvs : List V) : Prop where
  ex : ∃ (f : Addr) (fd : FuncData) (ds : List Value), mg x = some (.ref f) ∧ PySem.W.keepIn K (.ref f) = true ∧ FnOkG P w K mg base (L2.CX P w) k f fd ps sp ∧ Binds K fd ps ds ∧ Vals dvs ds
theorem gfn_mkG (F : FnOkG P w K mg base (L2.CX P w) k (d.pa.at_ K) (fdAt K (d.pa.at_ K)) ps sp) (D : DefOk K d) (hc : d.cls = none) (hdf : d.dfl = []) (hm : mg x = some (.ref (d.pa.at_ K)))
    (hb : ∀ (kV doc pm : Value) (an : Option Addr) (cdv ct : Value) (us : List Value), us.length = ps.length → bindArgs (PySem.W.fnOf d.name d.qual d.params d.body d.scope .none kV doc pm an cdv ct) ⟨us, []⟩ = pure (ps.zip us)) :
    GFnG P w K mg base x k ps sp [] := by
  have D2 := D.funD hc
  have e : d.dvs K = [] := by
    unfold DefP.dvs
    rw [hdf] <;> rfl
  rw [e] at D2
  exact ⟨_, _, [], hm, D.keep, F, D2.bindsN hb, .nil⟩
end
section
variable {X : Cx} {W : WX} {x : Str} {k : Nat} {ps : List Str} {sp : Sp} {dvs : List V} {e : Expr} {es : List Expr} {t : TA} {p pos : Pos}
theorem pe_fnG (G : GFnG X.prog X.w X.K X.mg X.base x k ps sp dvs) (hgd : X.A.guards = some []) (hr : Room k X.A) (hg : Gl X x) (tk : Takes X W) (ha : PA X (e :: es) t) (hdb : (x == ("__debug__" : Str)) = false := by decide)
    (he : starEach (e :: es) X.env = (false, eval e X.env) :: starEach es X.env := by rfl) (hpl : (backTo pos (starEach es X.env)).any (·.1) = false := by rfl) :
    PE X (.Call (.Name x p) (e :: es) [] pos) (tCallSD sp dvs (WE W) t) := by
  obtain ⟨f, fd, ds, hm, hk, F, hb, hd⟩ := G.ex
  refine ⟨fun pins s σ H Q I h => ?_⟩
  refine wpAny_Call_Name_kw (ld_glob I hg hm ?_ hdb)
  refine PySem.W.callWith_K (h₀ := X.base) I.ok.mod.kin hk ?_ he hpl
  refine thn (ha.run pos pins s σ H _ I h) fun us s1 ⟨vs, H1, I1, r, q⟩ => ⟨I1.kIn, ?_⟩
  have r2 : Vals (vs ++ dvs) (us ++ ds) := r.append hd
  have hl : (us ++ ds).length = ps.length := by
    rw [← r2.length]
    exact F.len _ _ _ _ q
  refine wpAny_call (codeAny_mono (F.run X.A X.stack hgd s1 H1 ⟨us, []⟩ (us ++ ds) (vs ++ dvs) Q _ hr I1.env0 (hb s1 us I1.kIn hl) r2 q) fun r s' hq => ?_)
  cases r with
  | error e => exact passAt tk σ pins H1 s1 e s' I1 hq
  | ok fl =>
    cases fl with
    | ret u => exact I1.after hq
    | next => exact False.elim hq
    | brk => exact False.elim hq
    | cont => exact False.elim hq
end
theorem walk_ofG {l : PySem.W.OpenLaw} {n k : Nat} {q : Program} {loose : List Str} {XP : (Str → Option Value) → Heap → Prop} {YP : World → Heap → Prop} {d : DefRec} {x : Str}
    (hn : l.most = some n) (hn2 : n ≤ sizeLine) (hdf : d.params.defaults = []) (hr : Room k callerA)
    (F : ∀ (w : World) (mg : Str → Option Value) (fa : Addr) (h : Heap), YP w h → h.Ns mainGlobals mg → mg d.name = some (.ref fa) →
      ∃ (K : Frag) (fd : FuncData) (sp : Sp), K.In h ∧ (∀ (s : Shared) (u : Value), BindsTo s fd ⟨[u], []⟩ [(x, u)]) ∧
        (∀ (H : Hp) (a : Addr) (ns : List Int), ns.length ≤ n → Only H → SqL K H a (ns.map V.int) → sp [.ref a] H (fun v _ => v = .bl true) fun _ _ _ => False) ∧
        ∀ base : Heap, K.In base → base.Ns mainGlobals mg → FnOkG l.prog w K mg base (L2.CX l.prog w) k fa fd [x] sp) :
    PySem.W.WalkO q loose XP YP l.row.toRowW d [] (fun f vs => PySem.call f vs) := by
  refine Att.attach_call hn hdf fun w t0 t1 mg mb fa o pm cd doc a vs ns G Y ho hd hcd hmg hobj hints hlen hg => ?_
  obtain ⟨K, fd, sp, KX, hb, hsp, hF⟩ := F w mg fa _ Y G.T.g hmg
  refine law_callG KX G.T.g G.T.b G.T.builtins G.T.nolimit hg hobj hints (Nat.le_trans hlen hn2) hr hF hb (fun H hO hS => hsp H a ns hlen hO hS) fun H e s' c => ?_
  obtain ⟨_, _, _, _, _, _, _, _, _, _, _, _, z⟩ := c
  exact z
end L2.Pg

namespace L2.Pg
open PySem PySem.Spec PyProof.Rows L2
open PySem.W (Frag findIn)
structure VeInit (K : Frag) (C : Addr) : Prop where
  ty : PySem.W.typeIn K (.ref C) = some (.type "type")
  cr : ClX.CRead K C (.type "type")
  cv : PySem.W.findCls K (.ref C) (.type "type") "__init__" = some (.val (.builtin "ValueError.__init__"))
def veInitB (K : Frag) (C : Addr) : Bool := decide (PySem.W.typeIn K (.ref C) = some (.type "type")) && (PySem.W.readsIn K C (.type "type") && (He.eqO (PySem.W.specialIn K (.ref C) "__getattribute__") (some (some (.builtin "type.__getattribute__"))) &&
  (match PySem.W.findCls K (.ref C) (.type "type") "__init__" with
    | some (.val (.builtin n)) => decide (n = "ValueError.__init__")
    | _ => false)))
theorem veInitB_ok {K : Frag} {C : Addr} (h : veInitB K C = true) : VeInit K C := by
  obtain ⟨h1, h⟩ := and2 h
  obtain ⟨h2, h⟩ := and2 h
  obtain ⟨h3, h4⟩ := and2 h
  refine ⟨of_decide_eq_true h1, ⟨h2, He.eqO_ok h3⟩, ?_⟩
  split at h4
  · rename_i n e
    rw [e, of_decide_eq_true h4]
  · cases h4
/-- isinstance(v, a built-in class): the answer -/
def Isi (K : Frag) (H : Hp) (v : V) (u : Value) (b : Bool) : Prop := ∃ t, TyX K H v t ∧ PySem.W.kitOne K t u = some b
theorem isi_ty {K : Frag} {H : Hp} {v : V} {c : String} {b : Bool} {Q : VK} (h : Isi K H v (.type c) b) (q : Q (.bl b) H) : rIsi K [v, .ty c] H Q := by
  obtain ⟨t, h1, h2⟩ := h
  exact ⟨v, .ty c, t, .type c, b, rfl, .ty c, h1, h2, q⟩
theorem isi_cl {K : Frag} {H : Hp} {v : V} {C : Addr} {b : Bool} {Q : VK} (h : Isi K H v (.ref C) b) (hc : ClsV (.ref C) (.ref C)) (q : Q (.bl b) H) : rIsi K [v, .ref C] H Q := by
  obtain ⟨t, h1, h2⟩ := h
  exact ⟨v, .ref C, t, .ref C, b, rfl, hc, h1, h2, q⟩
theorem Isi.int {K : Frag} {H : Hp} (i : Int) : Isi K H (.int i) (.type "int") true := ⟨_, .base (.int i), kit_ty (by decide +kernel)⟩
theorem Isi.int_bl {K : Frag} {H : Hp} (i : Int) : Isi K H (.int i) (.type "bool") false := ⟨_, .base (.int i), kit_ty (by decide +kernel)⟩
theorem Isi.int_str {K : Frag} {H : Hp} (i : Int) : Isi K H (.int i) (.type "str") false := ⟨_, .base (.int i), kit_ty (by decide +kernel)⟩
theorem Isi.bl_int {K : Frag} {H : Hp} (b : Bool) : Isi K H (.bl b) (.type "int") true := ⟨_, .base (.bl b), kit_ty (by decide +kernel)⟩
theorem Isi.bl {K : Frag} {H : Hp} (b : Bool) : Isi K H (.bl b) (.type "bool") true := ⟨_, .base (.bl b), kit_ty (by decide +kernel)⟩
theorem Isi.bl_str {K : Frag} {H : Hp} (b : Bool) : Isi K H (.bl b) (.type "str") false := ⟨_, .base (.bl b), kit_ty (by decide +kernel)⟩
theorem Isi.str {K : Frag} {H : Hp} (x : Str) : Isi K H (.str x) (.type "str") true := ⟨_, .base (.str x), kit_ty (by decide +kernel)⟩
theorem Isi.str_int {K : Frag} {H : Hp} (x : Str) : Isi K H (.str x) (.type "int") false := ⟨_, .base (.str x), kit_ty (by decide +kernel)⟩
theorem Isi.str_bl {K : Frag} {H : Hp} (x : Str) : Isi K H (.str x) (.type "bool") false := ⟨_, .base (.str x), kit_ty (by decide +kernel)⟩

section
variable {P : Program} {w : World} {K : Frag} {mg : Str → Option Value} {base : Heap} {N ps : List Str} {qual : Str} {scope : Scope} {f cc : Addr} {cdv : Value} {A : Around} {outer : List Env} {s : Shared} {H : Hp} {E : XK} {k : Nat} {sp : Sp} {d : DefP} {c : Str}
theorem tk_fn : Takes (cxOf (L2.CX P w) P w K mg base N qual scope f cdv A outer s H E) (fun cls d _ H => E cls d H) := takes_of rfl rfl rfl rfl
theorem tk_m : Takes (cxM (L2.CX P w) P w K mg base N qual scope cc f cdv A outer s H E) (fun cls d _ H => E cls d H) := takes_of rfl rfl rfl rfl
theorem po_fn : PassesOwn (model P w) (cxOf (L2.CX P w) P w K mg base N qual scope f cdv A outer s H E).A (cxOf (L2.CX P w) P w K mg base N qual scope f cdv A outer s H E).env (cxOf (L2.CX P w) P w K mg base N qual scope f cdv A outer s H E).xe := passes_of (X := cxOf (L2.CX P w) P w K mg base N qual scope f cdv A outer s H E) rfl
theorem po_m : PassesOwn (model P w) (cxM (L2.CX P w) P w K mg base N qual scope cc f cdv A outer s H E).A (cxM (L2.CX P w) P w K mg base N qual scope cc f cdv A outer s H E).env (cxM (L2.CX P w) P w K mg base N qual scope cc f cdv A outer s H E).xe := passes_of (X := cxM (L2.CX P w) P w K mg base N qual scope cc f cdv A outer s H E) rfl
/-- the program's main module, for super() -/
structure PMain (P : Program) : Prop where
  sup : (P.main.scope.names.lookup ("super" : Str)).isSome = false
  file : (P.main.file == ("/claim/cut.py" : Str)) = true
/-- a method that says super().m(..), by its body -/
theorem fn_mkM (D : DefOk K d) (hc : d.cls = some c) (S : MScope N ps d.scope) (pm : PMain P) (opq : PySem.W.nsIn K cStatics "thirdparty.any" = some none) (fs : mg ("super" : Str) = none) (isc : PySem.W.isClsIn K (He.ga K c) = true)
    (h1 : d.scope.names.lookup ("super" : Str) = some .globalImplicit) (h2 : d.scope.names.lookup ("__class__" : Str) = some .free) (h3 : d.scope.names.lookup ("self" : Str) = some .local)
    (h4 : ∀ L cc : Addr, (cellsFrom (L + 1) d.scope.names [] ++ [(("__class__" : Str), cc)]).lookup ("__class__" : Str) = some cc)
    (hpar : ∃ ar : Arg, (d.params.posonlyargs ++ d.params.args).head? = some ar ∧ ar.arg = "self") (len : ∀ vs H Q E, sp vs H Q E → vs.length = ps.length)
    (hbody : ∀ (cc : Addr) (cdv : Value) (A : Around) (outer : List Env) (s : Shared) (H : Hp) (vs : List V) (Q : VK) (E : XK), Room k (A.deeper (envM d.qual d.scope [("__class__", cc)] s.heap.objs.size (d.pa.at_ K) cdv)) →
      SupOk (cxM (L2.CX P w) P w K mg base N d.qual d.scope cc (d.pa.at_ K) cdv A outer s H E) (He.ga K c) (d.pa.at_ K) → sp vs H Q E →
      ∃ t, PSsC (cxM (L2.CX P w) P w K mg base N d.qual d.scope cc (d.pa.at_ K) cdv A outer s H E) (.func d.body (envM d.qual d.scope [("__class__", cc)] s.heap.objs.size (d.pa.at_ K) cdv)) d.body t ∧
        t { nx := fun _ H' => Q .non H', rt := Q } (L2.start N vs) H) :
    FnOk P w K mg base (L2.CX P w) (k + 1) (d.pa.at_ K) (fdAt K (d.pa.at_ K)) ps sp := by
  obtain ⟨oc, od, cl, dV, kV, doc, pmv, an, cdv, ct, osl, lk, cd, fl, clo, df, kw⟩ := D.ex
  rw [hc] at clo
  obtain ⟨cc, rfl, o2, d2, s2, hcc⟩ : ∃ cc, cl = [(("__class__" : Str), cc)] ∧ ∃ o2 d2 s2, K.lookup cc = some ⟨o2, d2, .cell (some (.ref (He.ga K c))), s2⟩ := by
    unfold cloB at clo
    dsimp only at clo
    split at clo
    · rename_i n cc
      obtain ⟨e1, e2⟩ := and2 clo
      have e1' := of_decide_eq_true e1
      refine ⟨cc, by rw [e1'], ?_⟩
      split at e2
      · rename_i o2 d2 D2 s2 q
        have e2' := of_decide_eq_true e2
        exact ⟨o2, d2, s2, by rw [q, e2']⟩
      · cases e2
    · cases clo
  have efd : fdAt K (d.pa.at_ K) = PySem.W.fnX d.name d.qual d.params d.body d.scope [("__class__", cc)] dV kV doc pmv an cdv ct := by
    unfold fdAt
    rw [lk] <;> rfl
  rw [efd]
  refine fn_ofM lk hcc cd S len fun A outer s H vs Q E hr hsp => hbody cc cdv A outer s H vs Q E hr ?_ hsp
  obtain ⟨ar, ha1, ha2⟩ := hpar
  refine ⟨pm.sup, fs, h1, h2, h3, rfl, ⟨oc, od, _, osl, ar, lk, ha1, ha2⟩, ?_, ⟨cc, _, h4 _ cc, hcc, rfl⟩, Option.isSome_iff_exists.mp isc, opq⟩
  unfold fileB at fl
  split at fl
  · rename_i cda
    split at fl
    · rename_i c1 c2 vs c3 q
      split at fl
      · rename_i v0 v1 file tk rest e
        have ef := of_decide_eq_true fl
        refine ⟨cda, _, vs, file, tk, rfl, q, rfl, ?_, ?_⟩
        · rw [← Array.getElem?_toList, e]
          rfl
        · rw [ef]
          exact pm.file
      · cases fl
    · cases fl
  · cases fl
end
end L2.Pg

/-! dicts of the module: d.get(k, x), d[k], k in d -/
namespace L2.Pg
open PySem PySem.Spec PyProof.Rows L2
open PySem.W (Frag findIn)
theorem tab_find : ∀ {kvs : List (Str × V)} {l : List DictEntry}, TabRel kvs l → ∀ k : Str, RelO (kvs.lookup k) ((l.find? fun e => Value.isStrOf k e.key).map (·.val))
  | [], [], _, k => trivial
  | (x, v) :: r, e :: l, ⟨⟨t, h1⟩, h2, h3⟩, k => by
    have ih := tab_find h3 k
    by_cases hk : k = x
    · subst hk
      have q : Value.isStrOf k e.key = true := by
        rw [h1]
        exact keyIs_str k t
      simp only [List.lookup, beq_self_eq_true, List.find?, q, Option.map]
      exact h2
    · have q : Value.isStrOf k e.key = false := by
        rw [h1]
        simp [Value.isStrOf, Ne.symm hk]
      have q2 : (k == x) = false := by simpa using hk
      simp only [List.lookup, q2, List.find?, q]
      exact ih
theorem KTab.map {K : Frag} {P : Program} {w : World} {a : Addr} {kvs : List (Str × V)} {h : Heap} (T : KTab K w a kvs) (X : K.In h) : ∃ f, h.MapOf (strKind P w) a f ∧ ∀ k, RelO (kvs.lookup k) (f k) := by
  obtain ⟨es, n, hl, hk, hr⟩ := T.ex
  refine ⟨_, PySem.W.mapOf_K X hl hk, fun k => ?_⟩
  obtain ⟨l⟩ := es
  unfold findBy
  rw [List.find?_toArray]
  exact tab_find hr k
/-- d.get(k, x) of a dict of the module -/
def tKGet2 (K : Frag) (w : World) (td ty tx : TE) : TE := fun σ H Q => td σ H fun x H1 => ∃ a kvs, x = .ref a ∧ KTab K w a kvs ∧ ty σ H1 fun y H2 => tx σ H2 fun z H3 => ∃ k, y = .str k ∧ Q ((kvs.lookup k).getD z) H3
def tKGet1 (K : Frag) (w : World) (td ty : TE) : TE := fun σ H Q => td σ H fun x H1 => ∃ a kvs, x = .ref a ∧ KTab K w a kvs ∧ ty σ H1 fun y H2 => ∃ k, y = .str k ∧ Q ((kvs.lookup k).getD .non) H2
section
variable {X : Cx} {o e f : Expr} {td ty tx : TE} {apos cpos : Pos}
theorem pe_kget2 (ho : PE X o td) (he : PE X e ty) (hf : PE X f tx) (m : M2 X o "get" apos e f cpos) : PE X (.Call (.Attribute o "get" apos) [e, f] [] cpos) (tKGet2 X.K X.w td ty tx) := by
  refine ⟨fun pins s σ H Q I h => ?_⟩
  refine wpAny_Call_method m.base m.few m.line PySem.F.plainAttrs_dict PySem.F.slot_dict_get PySem.F.type_dict_get (thn (ho.run pins s σ H _ I h) fun u s1 ⟨x, H1, I1, rx, a, kvs, ex, T, q1⟩ => ?_)
  subst ex
  obtain rfl : u = Value.ref a := rx
  obtain ⟨f0, m0, _⟩ := T.map (P := X.prog) I1.kIn
  obtain ⟨es, n, hl, _, _⟩ := T.ex
  refine ⟨m0.typeIs, fun b eb => ?_, ?_⟩
  · cases eb
    exact ⟨_, I1.kIn _ _ hl, rfl⟩
  rw [m.trees]
  refine PySem.wpAny_dict_get2 (knd := strKind X.prog X.w) T.nm (thn (he.run pins s1 σ H1 _ I1 q1) fun iv s2 ⟨y, H2, I2, ry, q2⟩ =>
    thn (hf.run pins s2 σ H2 _ I2 q2) fun fv s3 ⟨z, H3, I3, rz, k, ek, q3⟩ => ?_)
  subst ek
  obtain ⟨t, rfl⟩ := ry
  obtain ⟨f3, m3, r3⟩ := T.map (P := X.prog) I3.kIn
  refine ⟨k, f3, strKind_is X.prog X.w k t, m3, (kvs.lookup k).getD z, H3, I3.tok _, ?_, q3⟩
  have q := r3 k
  cases e1 : kvs.lookup k with
  | none =>
    rw [e1] at q
    cases e2 : f3 k with
    | none => exact rz
    | some u =>
      rw [e2] at q
      exact q.elim
  | some v =>
    rw [e1] at q
    cases e2 : f3 k with
    | none =>
      rw [e2] at q
      exact q.elim
    | some u =>
      rw [e2] at q
      exact q
end
end L2.Pg

/-! texts: comprehensions over signs, quoted -/
namespace L2.Pg
open PySem PySem.Spec PyProof.Rows L2
open PySem.W (Frag findIn)
/-- a comprehension over the signs of a text, the heap unchanged -/
theorem lc_mapS {x : Str} {te : TE} {i : Nat} {σ : St} {H1 : Hp} {D : Addr} {Qd : Hp → Prop} (f : Nat → V) (hD : H1 D = none) (hz : x.cps.size ≤ sizeLine)
    (hte : ∀ (j : Nat) (c : Nat) (H : Hp), x.cps[j]? = some c → Ext H1 H → ∀ R : VK, R (f c) H → te ((wipe σ [i]).set i (some (.str ⟨#[c]⟩))) H R)
    (hw : ∀ x, wipe ((wipe σ [i]).set i (some x)) [i] = wipe σ [i]) (hd : Qd (upd H1 D (.lst (x.cps.toList.map f)))) :
    ∃ W : Nat → Nat → Hp → Prop, (∃ m, W 0 m (upd H1 D (.lst []))) ∧ ∀ (n m : Nat) (H : Hp), W n m H → (Its x).stop n H ∧ Qd H ∨ (Its x).go n H ∧ ∃ Nx : Hp → Prop, (∀ (H' : Hp), Nx H' → ∃ m', m' < m ∧ W (n + 1) m' H') ∧
      ∀ (v : V) (H' : Hp), (Its x).yld n H v H' → gName i v (wipe σ [i]) H' fun σ2 H2 => wipe σ2 [i] = wipe σ [i] ∧ tYes σ2 H2 fun b H3 =>
        if b = true then te σ2 H3 fun y H4 => ∃ acc, H4 D = some (HO.lst acc) ∧ acc.length < sizeLine ∧ Nx (upd H4 D (HO.lst (acc ++ [y]))) else Nx H3 := by
  refine ⟨fun n m H => m + n = x.cps.size ∧ H = upd H1 D (.lst ((x.cps.toList.take n).map f)), ⟨x.cps.size, by simp, rfl⟩, ?_⟩
  rintro n m H ⟨hm, rfl⟩
  by_cases hn : n < x.cps.size
  · refine .inr ⟨hn, fun H' => H' = upd H1 D (.lst ((x.cps.toList.take (n + 1)).map f)), fun H' e => ⟨m - 1, by omega, by omega, e⟩, ?_⟩
    rintro v H' ⟨rfl, c, hc, rfl⟩
    refine ⟨hw _, ?_⟩
    show tYes _ _ _
    unfold tYes
    dsimp only
    rw [if_pos rfl]
    refine hte n c _ hc (Ext.new hD) _ ?_
    refine ⟨(x.cps.toList.take n).map f, upd_same, ?_, ?_⟩
    · rw [List.length_map, List.length_take, Array.length_toList]
      omega
    · rw [upd_upd]
      have hc' : x.cps.toList[n]? = some c := by
        rw [Array.getElem?_toList]
        exact hc
      have e2 : (x.cps.toList.take (n + 1)).map f = (x.cps.toList.take n).map f ++ [f c] := by
        rw [List.take_add_one, hc']
        simp
      rw [e2]
  · refine .inl ⟨by show x.cps.size ≤ n; omega, ?_⟩
    have e : n = x.cps.size := by omega
    subst e
    rw [List.take_of_length_le (by simp)]
    exact hd
/-- the notation of one sign of a literal -/
def signQ (c : Nat) : Str := if c = 92 then "\\\\" else if c = 10 then "\\n" else if c = 9 then "\\t" else if c = 39 then "\\'" else ⟨#[c]⟩
def quotedS (x : Str) : Str := "'" ++ Txt.join "" (x.cps.toList.map signQ) ++ "'"
theorem one_eq (c d : Nat) : ((⟨#[c]⟩ : Str) = ⟨#[d]⟩) ↔ c = d := by
  constructor
  · intro h
    injection h with h
    injection h with h
    injection h
  · intro h
    rw [h]
theorem look_special (c : Nat) (z : V) : (([(("\\" : Str), V.str "\\\\"), ("\n", V.str "\\n"), ("\t", V.str "\\t")] : List (Str × V)).lookup ⟨#[c]⟩).getD z =
    if c = 92 then V.str "\\\\" else if c = 10 then V.str "\\n" else if c = 9 then V.str "\\t" else z := by
  have e1 : ("\\" : Str) = ⟨#[92]⟩ := by rfl
  have e2 : ("\n" : Str) = ⟨#[10]⟩ := by rfl
  have e3 : ("\t" : Str) = ⟨#[9]⟩ := by rfl
  rw [e1, e2, e3]
  by_cases h1 : c = 92
  · subst h1
    rfl
  · have q1 : ((⟨#[c]⟩ : Str) == ⟨#[92]⟩) = false := by
      rw [beq_eq_false_iff_ne]
      exact fun z => h1 ((one_eq _ _).mp z)
    rw [if_neg h1]
    simp only [List.lookup, q1]
    by_cases h2 : c = 10
    · subst h2
      rfl
    · have q2 : ((⟨#[c]⟩ : Str) == ⟨#[10]⟩) = false := by
        rw [beq_eq_false_iff_ne]
        exact fun z => h2 ((one_eq _ _).mp z)
      rw [if_neg h2]
      simp only [q2]
      by_cases h3 : c = 9
      · subst h3
        rfl
      · have q3 : ((⟨#[c]⟩ : Str) == ⟨#[9]⟩) = false := by
          rw [beq_eq_false_iff_ne]
          exact fun z => h3 ((one_eq _ _).mp z)
        rw [if_neg h3]
        simp only [q3]
        rfl
theorem one_quote (c : Nat) : decide (V.str ⟨#[c]⟩ = V.str "'") = decide (c = 39) := by
  have e1 : ("'" : Str) = ⟨#[39]⟩ := by rfl
  rw [e1]
  by_cases h : c = 39
  · subst h
    simp
  · rw [decide_eq_false h, decide_eq_false]
    intro z
    injection z with z
    exact h ((one_eq _ _).mp z)
theorem upd_keep {H : Hp} {p q : Addr} {o u : HO} (h : H p = some o) (n : p ≠ q) : upd H q u p = some o := by
  rw [upd_ne n]
  exact h
theorem signQ_len (c : Nat) : (signQ c).length ≤ 2 := by
  unfold signQ
  split
  · decide
  split
  · decide
  split
  · decide
  split
  · decide
  · show (#[c] : Array Nat).size ≤ 2
    simp
theorem join_empty (l : List Str) (n : Nat) (h : ∀ x ∈ l, x.length ≤ n) : (Txt.join "" l).length ≤ n * l.length := by
  have e : (Txt.join "" l).length = (l.map (·.length)).sum + (l.length - 1) * ("" : Str).length := size_glued _ _
  rw [e, show (("" : Str).length) = 0 from rfl, Nat.mul_zero, Nat.add_zero]
  induction l with
  | nil => simp
  | cons x r ih =>
    have h1 := h x List.mem_cons_self
    have h2 := ih (fun y hy => h y (List.mem_cons_of_mem _ hy)) (size_glued _ _)
    rw [List.map_cons, List.sum_cons, List.length_cons, Nat.mul_add]
    omega
theorem quotedS_len (x : Str) : (quotedS x).length ≤ 2 * x.length + 2 := by
  unfold quotedS
  rw [strLen_append, strLen_append]
  have h := join_empty (x.cps.toList.map signQ) 2 (fun y hy => by
    obtain ⟨c, _, rfl⟩ := List.mem_map.mp hy
    exact signQ_len c)
  rw [List.length_map, Array.length_toList] at h
  have e : ("'" : Str).length = 1 := rfl
  have e2 : x.length = x.cps.size := rfl
  omega
/-- all but what is at a stands -/
abbrev ExtX (a : Addr) (H H' : Hp) : Prop := ∀ b o, b ≠ a → H b = some o → H' b = some o
theorem ExtX.rf {a : Addr} {H : Hp} : ExtX a H H := fun _ _ _ h => h
theorem Ext.x {a : Addr} {H H' : Hp} (h : Ext H H') : ExtX a H H' := fun b o _ e => h b o e
theorem ExtX.tr {a : Addr} {H H1 H2 : Hp} (x : ExtX a H H1) (y : ExtX a H1 H2) : ExtX a H H2 := fun b o n e => y b o n (x b o n e)
theorem ExtX.upd {a : Addr} {H : Hp} {o : HO} : ExtX a H (L2.upd H a o) := fun b u n e => by
  rw [upd_ne n]
  exact e
end L2.Pg

/-! what the program's functions are asked for -/
namespace L2.Pg
open PySem PySem.Spec PyProof.Rows L2
open PySem.W (Frag findIn)
/-- an integer from lo to hi -/
def isInt (v : V) (lo hi : Int) : Bool := match v with
  | .int i => decide (lo ≤ i) && decide (i ≤ hi)
  | _ => false
def sp_is_integer (K : Frag) : Sp := fun vs H Q _ => ∃ (v : V) (lo hi : Int), vs = [v, .int lo, .int hi] ∧ ((∃ i, v = .int i) ∨ (∃ b, v = .bl b) ∨ (Isi K H v (.type "int") false ∧ isInt v lo hi = false)) ∧ Q (.bl (isInt v lo hi)) H
def isStrIn (v : V) (lo hi : Int) : Bool := match v with
  | .str x => decide (lo ≤ x.length) && decide ((x.length : Int) ≤ hi)
  | _ => false
def sp_is_string (K : Frag) : Sp := fun vs H Q _ => ∃ (v : V) (lo hi : Int), vs = [v, .int lo, .int hi] ∧ ((∃ x, v = .str x ∧ x.length ≤ sizeLine) ∨ (Isi K H v (.type "str") false ∧ isStrIn v lo hi = false)) ∧ Q (.bl (isStrIn v lo hi)) H
def sp_quoted (K : Frag) : Sp := fun vs H Q _ => ∃ x : Str, vs = [.str x] ∧ x.length ≤ 1000 ∧ ∀ H', Ext H H' → Q (.str (quotedS x)) H'
/-- raised: BadExpression -/
def badE (K : Frag) (E : XK) (H : Hp) : Prop := ∀ d H', Ext H H' → (∃ r, H' d = some (.xd [("reason", r)])) → E (.ref (He.ga K "BadExpression")) (some d) H'
def badA (K : Frag) (a : Addr) (E : XK) (H : Hp) : Prop := ∀ d H', ExtX a H H' → (∃ r, H' d = some (.xd [("reason", r)])) → E (.ref (He.ga K "BadExpression")) (some d) H'
theorem badA.e {K : Frag} {a : Addr} {E : XK} {H : Hp} (h : badA K a E H) : badE K E H := fun d H' x r => h d H' x.x r
theorem badE.ext {K : Frag} {E : XK} {H H1 : Hp} (h : badE K E H) (x : Ext H H1) : badE K E H1 := fun d H' y r => h d H' (x.tr y) r
theorem badA.ext {K : Frag} {a : Addr} {E : XK} {H H1 : Hp} (h : badA K a E H) (x : ExtX a H H1) : badA K a E H1 := fun d H' y r => h d H' (x.tr y) r
/-- is it an expression? -/
def ExOr (K : Frag) (H : Hp) (v : V) (b : Bool) : Prop := Isi K H v (.ref (He.ga K "Expression")) b
def sp_need_expressions (K : Frag) : Sp := fun vs H Q E => ∃ (tp : Addr) (us : List V) (bs : List Bool), vs = [.ref tp] ∧ SqT K H tp us ∧ us.length = bs.length ∧ (∀ (i : Nat) (v : V) (b : Bool), us[i]? = some v → bs[i]? = some b → ∀ H', Ext H H' → ExOr K H' v b) ∧
  (if bs.all id then ∀ H', Ext H H' → Q .non H' else badE K E H)
def countS (low : Int) (high : Option Int) : Str := match high with
  | none => if low = 0 then "*" else if low = 1 then "+" else "{" ++ toString low ++ ",}"
  | some h => if low = 0 ∧ h = 1 then "?" else "{" ++ toString low ++ "," ++ toString h ++ "}"
def optV : Option Int → V
  | none => .non
  | some i => .int i
def sp_count_text (K : Frag) : Sp := fun vs H Q _ => ∃ (low : Nat) (high : Option Nat), vs = [.int low, optV (high.map Int.ofNat)] ∧ low ≤ 20 ∧ (∀ h, high = some h → h ≤ 20) ∧ ∀ H', Ext H H' → Q (.str (countS low (high.map Int.ofNat))) H'
theorem num_len : ∀ i : Nat, i ≤ 20 → (Str.ofString (toString ((i : Nat) : Int))).length ≤ 2 := by
  have h : ∀ i : Fin 21, (Str.ofString (toString ((i.val : Nat) : Int))).length ≤ 2 := by decide +kernel
  exact fun i hi => h ⟨i, by omega⟩
theorem log_small {i : Int} (h : i.natAbs ≤ 1000) : i.natAbs.log2 < 1920 := by
  have z := Nat.log2_le_self i.natAbs
  omega
end L2.Pg

/-! rules with the frame's things named (inside comprehensions) -/
namespace L2.Pg
open PySem PySem.Spec PyProof.Rows L2
open PySem.W (Frag findIn)
section
variable {X : Cx} {K : Frag} {w : World} {o e fx : Expr} {m : Str} {td ty tx ta te : TE} {pos apos cpos : Pos}
theorem pe_fldK (hK : X.K = K) (he : PE X e ta) (hb : attributeBase e m X.env (eval e X.env) = eval e X.env) : PE X (.Attribute e m pos) (tFld K ta m) := by
  subst hK
  exact pe_fld he hb
theorem pe_conK (hK : X.K = K) (he : PE X e ta) (hb : attributeBase e m X.env (eval e X.env) = eval e X.env) : PE X (.Attribute e m pos) (tCon K ta m) := by
  subst hK
  exact pe_con he hb
theorem call_isiK (hK : X.K = K) : CallR X (.builtin "isinstance") (rIsi K) := by
  subst hK
  exact call_isi
theorem op_eqK (hK : X.K = K) (hu : X.A.units + 64 < cLine) : OpR X (compareOp .Eq) (rEqA K) := by
  subst hK
  exact op_eqA hu
theorem op_neK (hK : X.K = K) (hu : X.A.units + 64 < cLine) : OpR X (compareOp .NotEq) (rNeA K) := by
  subst hK
  exact op_neA hu
theorem pe_kget2K (hK : X.K = K) (hw : X.w = w) (ho : PE X o td) (he : PE X e ty) (hf : PE X fx tx) (m : M2 X o "get" apos e fx cpos) : PE X (.Call (.Attribute o "get" apos) [e, fx] [] cpos) (tKGet2 K w td ty tx) := by
  subst hK hw
  exact pe_kget2 ho he hf m
abbrev rInStr : R2 := fun x y H Q => ∃ i j, x = V.str i ∧ y = V.str j ∧ Q (V.bl (!(Builtin.Str.occurrences j i 0 j.length 1).isEmpty)) H
abbrev rNotInStr : R2 := fun x y H Q => ∃ i j, x = V.str i ∧ y = V.str j ∧ Q (V.bl (!(!(Builtin.Str.occurrences j i 0 j.length 1).isEmpty))) H
def rInA (K : Frag) : R2 := rOr (rIn K false) rInStr
def rNotInA (K : Frag) : R2 := rOr (rIn K true) rNotInStr
theorem op_inK (hK : X.K = K) : OpR X (compareOp .In) (rInA K) := by
  subst hK
  exact op_or op_in_seq op_in_str
theorem op_notInK (hK : X.K = K) : OpR X (compareOp .NotIn) (rNotInA K) := by
  subst hK
  exact op_or op_notIn_seq op_notIn_str
def rLenK (K : Frag) : List V → Hp → VK → Prop := fun xs H Q => ∃ x n, xs = [x] ∧ LenV K x H n ∧ Q (.int n) H
theorem call_lenK (hK : X.K = K) : CallR X (.builtin "len") (rLenK K) := by
  subst hK
  exact call_len
def rTupK (K : Frag) : List V → Hp → VK → Prop := fun xs H Q => ∃ p ys, xs = [.ref p] ∧ ((SqL K H p ys ∧ ∀ l, H l = none → Q (.ref l) (upd H l (.tup ys))) ∨ (SqT K H p ys ∧ Q (.ref p) H))
theorem call_tupK (hK : X.K = K) : CallR X (.type "tuple") (rTupK K) := by
  subst hK
  exact call_tuple_of
def rJoinK (K : Frag) : V → List V → Hp → VK → Prop := fun x xs H Q => ∃ a p, ∃ ys : List Str, x = .str a ∧ xs = [.ref p] ∧ (SqL K H p (ys.map V.str) ∨ SqT K H p (ys.map V.str)) ∧
      (ys.map (·.length)).sum + ys.length * a.length ≤ 16777216 ∧ Q (.str (Txt.join a ys)) H
theorem pe_joinK {apos pos : Pos} (hK : X.K = K) (ho : PE X o td) (he : PE X e te) (hs : starEach [e] X.env = [(false, eval e X.env)] := by rfl) (hbase : attributeBase o "join" X.env (eval o X.env) = eval o X.env := by rfl) (hline : (apos.endLine == pos.line) = true := by rfl) :
    PE X (.Call (.Attribute o "join" apos) [e] [] pos) (tM1 (rJoinK K) td te) := by
  subst hK
  exact pe_join ho he hs hbase hline
theorem op_addK (hK : X.K = K) : OpR X (binaryOp .Add) (rAddA K) := by
  subst hK
  exact op_addA
theorem cr_allK (hK : X.K = K) (hc : X.calm = true) : CallR X (.builtin "all") (rAll K) := by
  subst hK
  exact cr_all hc
theorem cr_anyK (hK : X.K = K) (hc : X.calm = true) : CallR X (.builtin "any") (rAny K) := by
  subst hK
  exact cr_any hc
theorem cr_sumK (hK : X.K = K) (hc : X.calm = true) : CallR X (.builtin "sum") (rSum K) := by
  subst hK
  exact cr_sum hc
theorem cr_maxK (hK : X.K = K) (hc : X.calm = true) : CallR X (.builtin "max") (rMax K) := by
  subst hK
  exact cr_max hc
theorem ix_seqK (hK : X.K = K) : IxR X (rIx K) := by
  subst hK
  exact ix_seq
theorem pi_tupK {tg : Expr} (hK : X.K = K) (h : PE X e te) : PI X tg e (iTup K te) := by
  subst hK
  exact pi_tup h
theorem pi_listK {tg : Expr} (hK : X.K = K) (h : PE X e te) : PI X tg e (iList K te) := by
  subst hK
  exact pi_list h
theorem ps_fldK {value : Expr} {p1 p2 : Pos} {f : Str} (hK : X.K = K) (ha : PE X o ta) (hv : PE X value te) (hs : swapsWith value (some (.Attribute o f p1)) p2.line X.env = pure false) : PS X (.Assign [.Attribute o f p1] value p2) (sFld K ta te f) := by
  subst hK
  exact ps_fld ha hv hs
end
end L2.Pg

/-! one step of a reading -/
namespace L2.Pg
open PySem PySem.Spec PyProof.Rows L2
open PySem.W (Frag findIn)
section
variable {σ : St} {H : Hp} {Q : VK} {QA : List V → Hp → Prop} {QB : Bool → Hp → Prop} {D : Ends} {ta tb tc te tv : TE} {t u : TT} {ts1 ts2 : TS} {tl : TA} {i : Nat} {v x y : V} {K : Frag} {r r' : R2} {f : Str}
theorem go_var (h : σ[i]? = some (some v)) (q : Q v H) : tVar i σ H Q := ⟨v, h, q⟩
theorem go_c (q : Q v H) : tC v σ H Q := q
theorem go_nil (q : QA [] H) : tNil σ H QA := q
theorem go_cons (h : ta σ H fun x H1 => tl σ H1 fun xs H2 => QA (x :: xs) H2) : tCons ta tl σ H QA := h
theorem go_cb {r : List V → Hp → VK → Prop} (h : tl σ H fun vs H1 => r vs H1 Q) : tCB r tl σ H Q := h
theorem go_ret (h : te σ H D.rt) : tRet te D σ H := h
theorem go_retN (h : D.rt .non H) : tRetN D σ H := h
theorem go_seq (h : ts1 { D with nx := ts2 D } σ H) : tSeq ts1 ts2 D σ H := h
theorem go_next (h : D.nx σ H) : tNext D σ H := h
theorem go_asg {g : TG} (h : te σ H fun x H1 => g x σ H1 D.nx) : tAsg te g D σ H := h
theorem go_drop (h : te σ H fun _ H1 => D.nx σ H1) : tDrop te D σ H := h
theorem go_ifs (h : t σ H fun b H1 => if b = true then ts1 D σ H1 else ts2 D σ H1) : tIfS t ts1 ts2 D σ H := h
theorem go_test (h : te σ H fun x H1 => ∃ k, x = .bl k ∧ QB k H1) : tTest te σ H QB := h
theorem go_b (h : te σ H fun x H1 => ∃ k, x = .bl k ∧ QB k H1) : tB te σ H QB := h
theorem go_and (h : t σ H fun c H1 => if c = true then u σ H1 QB else QB false H1) : tAnd t u σ H QB := h
theorem go_or (h : t σ H fun c H1 => if c = true then QB true H1 else u σ H1 QB) : tOr t u σ H QB := h
theorem go_not (h : t σ H fun c H1 => QB (!c) H1) : tNot t σ H QB := h
theorem go_andV (h : ta σ H fun x H1 => ∃ c, x = .bl c ∧ if c = true then tb σ H1 Q else Q (.bl false) H1) : tAndV ta tb σ H Q := h
theorem go_orV (h : ta σ H fun x H1 => ∃ c, x = .bl c ∧ if c = true then Q (.bl true) H1 else tb σ H1 Q) : tOrV ta tb σ H Q := h
theorem go_notV (h : ta σ H fun x H1 => ∃ c, x = .bl c ∧ Q (.bl (!c)) H1) : tNotV ta σ H Q := h
theorem go_if (h : t σ H fun c H1 => if c = true then ta σ H1 Q else tb σ H1 Q) : tIf t ta tb σ H Q := h
theorem go_chain (h : ta σ H fun x H1 => tb σ H1 fun y H2 => r x y H2 fun z H3 => ∃ k, z = .bl k ∧ (if k = true then tc σ H3 fun w' H4 => r' y w' H4 Q else Q (.bl false) H3)) : tChain r r' ta tb tc σ H Q := h
theorem go_op (h : ta σ H fun x H1 => tb σ H1 fun y H2 => r x y H2 Q) : tOp r ta tb σ H Q := h
theorem go_un {r : V → Hp → VK → Prop} (h : ta σ H fun x H1 => r x H1 Q) : tUn r ta σ H Q := h
theorem go_name {q : St → Hp → Prop} (h : q (σ.set i (some v)) H) : gName i v σ H q := h
theorem go_fld (h : ta σ H fun x H1 => ∃ a C dx fs v, x = .ref a ∧ H1 a = some (.ins C dx fs) ∧ Cls K C ∧ NoAttr K C f ∧ fs.lookup f = some v ∧ Q v H1) : tFld K ta f σ H Q := h
theorem go_con (h : ta σ H fun x H1 => ∃ a C dx fs v u, x = .ref a ∧ H1 a = some (.ins C dx fs) ∧ Cls K C ∧ Con K C f v u ∧ fs.lookup f = none ∧ Q v H1) : tCon K ta f σ H Q := h
theorem go_sfld (h : tv σ H fun y H1 => ta σ H1 fun x H2 => ∃ a C dx fs, x = .ref a ∧ H2 a = some (.ins C dx fs) ∧ Cls K C ∧ NoAttr K C f ∧ fs.length < 1000 ∧ D.nx σ (upd H2 a (.ins C dx (putF f y fs)))) : sFld K ta tv f D σ H := h
theorem go_tup (h : tl σ H fun xs H1 => xs.length ≤ sizeLine ∧ ∀ p, H1 p = none → Q (.ref p) (upd H1 p (.tup xs))) : tTup tl σ H Q := h
theorem go_lst (h : tl σ H fun xs H1 => xs.length ≤ sizeLine ∧ ∀ p, H1 p = none → Q (.ref p) (upd H1 p (.lst xs))) : tLst tl σ H Q := h
theorem go_call {sp : Sp} {dvs : List V} {E : St → XK} (h : tl σ H fun vs H1 => sp (vs ++ dvs) H1 Q (E σ)) : tCallSD sp dvs E tl σ H Q := h
theorem go_kget {w : World} (h : ta σ H fun x H1 => ∃ a kvs, x = .ref a ∧ KTab K w a kvs ∧ tb σ H1 fun y H2 => tc σ H2 fun z H3 => ∃ k, y = .str k ∧ Q ((kvs.lookup k).getD z) H3) : tKGet2 K w ta tb tc σ H Q := h
theorem go_m0 {r : V → List V → Hp → VK → Prop} (h : ta σ H fun x H1 => (∃ a, x = .str a) ∧ r x [] H1 Q) : tM0 r ta σ H Q := h
theorem go_m1 {r : V → List V → Hp → VK → Prop} (h : ta σ H fun x H1 => (∃ a, x = .str a) ∧ tb σ H1 fun y H2 => r x [y] H2 Q) : tM1 r ta tb σ H Q := h
theorem go_jnil {q : Str → Hp → Prop} {acc : Str} (h : q acc H) : tJs [] acc σ H q := h
theorem go_jcons {q : Str → Hp → Prop} {acc : Str} {r : List TE} (h : te σ H fun x H1 => ∃ y : Str, x = .str y ∧ (acc ++ y).length ≤ sizeLine ∧ tJs r (acc ++ y) σ H1 q) : tJs (te :: r) acc σ H q := h
theorem go_fmt (h : te σ H fun x H1 => (∃ y : Str, x = .str y ∧ y.length ≤ sizeLine ∧ Q (.str y) H1) ∨ ∃ i : Int, x = .int i ∧ i.natAbs.log2 < 1920 ∧ Q (.str (toString i)) H1) : tFmt te σ H Q := h
theorem go_err {C : Addr} {fld : Str} {E : XK} (h : tl σ H fun vs H1 => ∃ v, vs = [v] ∧ ∀ d H', H1 d = none → Ext H1 H' → H' d = some (.xd [(fld, v)]) → E (.ref C) (some d) H') : tErr C fld tl σ H E := h
theorem go_yes (h : QB true H) : tYes σ H QB := h
theorem go_not_t (h : QB false H) : QB (!true) H := h
theorem go_lcs {wi : TI} {g : TG} {tt : TT} {vs : List Nat} (h : wi σ H fun J H1 => ∀ D, H1 D = none → ∃ W : Nat → Nat → Hp → Prop, (∃ m, W 0 m (upd H1 D (.lst []))) ∧ ∀ i m H, W i m H →
  (J.stop i H ∧ Q (.ref D) H) ∨ (J.go i H ∧ ∃ Nx : Hp → Prop, (∀ H', Nx H' → ∃ m', m' < m ∧ W (i + 1) m' H') ∧ ∀ x H', J.yld i H x H' → g x (wipe σ vs) H' fun σ2 H2 => wipe σ2 vs = wipe σ vs ∧ tt σ2 H2 fun b H3 =>
    if b = true then te σ2 H3 fun y H4 => ∃ acc, H4 D = some (.lst acc) ∧ acc.length < sizeLine ∧ Nx (upd H4 D (.lst (acc ++ [y]))) else Nx H3)) : tLc wi g tt te vs σ H Q := h
theorem go_str {R : It → Hp → Prop} (h : te σ H fun v H1 => ∃ x, v = .str x ∧ R (Its x) H1) : iStr te σ H R := h
theorem go_itup {R : It → Hp → Prop} (h : te σ H fun x H1 => ∃ a, x = .ref a ∧ (∃ xs, SqT K H1 a xs) ∧ R (Itt K a) H1) : iTup K te σ H R := h
theorem go_ilist {R : It → Hp → Prop} (h : te σ H fun x H1 => ∃ a, x = .ref a ∧ (∃ xs, SqL K H1 a xs) ∧ R (Itl K a) H1) : iList K te σ H R := h
theorem go_for {wi : TI} {g : TG} (h : wi σ H fun J H1 => ∃ W : Nat → Nat → St → Hp → Prop, (∃ m, W 0 m σ H1) ∧ ∀ i m σ H, W i m σ H →
  (J.stop i H ∧ D.nx σ H) ∨ (J.go i H ∧ ∃ N : St → Hp → Prop, (∀ σ' H', N σ' H' → ∃ m', m' < m ∧ W (i + 1) m' σ' H') ∧ ∀ x H', J.yld i H x H' → g x σ H' fun σ2 H2 => ts1 { D with nx := N, ct := N, bk := D.nx } σ2 H2)) : tFor wi g ts1 D σ H := h
/-! operators -/
theorem go_addI {i j : Int} (q : Q (.int (i + j)) H) : rAddA K (.int i) (.int j) H Q := .inl ⟨i, j, rfl, rfl, q⟩
theorem go_addS {i j : Str} (h : i.length + j.length ≤ sizeLine) (q : Q (.str (i ++ j)) H) : rAddA K (.str i) (.str j) H Q := .inr (.inl ⟨i, j, rfl, rfl, h, q⟩)
theorem go_addL {a b : Addr} {xs ys : List V} (ha : H a = some (.lst xs)) (hb : H b = some (.lst ys)) (h : xs.length + ys.length ≤ sizeLine) (q : ∀ p, H p = none → Q (.ref p) (upd H p (.lst (xs ++ ys)))) : rAddA K (.ref a) (.ref b) H Q :=
  .inr (.inr (.inl ⟨a, b, xs, ys, rfl, rfl, ha, hb, h, q⟩))
theorem go_eqS (h : scal x y = true) (q : Q (.bl (decide (x = y))) H) : rEqA K x y H Q := .inl ⟨h, q⟩
theorem go_neS (h : scal x y = true) (q : Q (.bl (!decide (x = y))) H) : rNeA K x y H Q := .inl ⟨h, q⟩
theorem go_eqD {d e : PyData} (h1 : Dp K H x d) (h2 : Dp K H y e) (h3 : SeqAt.shaped d = true) (h4 : SeqAt.shaped e = true) (q : Q (.bl (PyData.eqv d e)) H) : rEqA K x y H Q := .inr ⟨d, e, h1, h2, h3, h4, q⟩
theorem go_neD {d e : PyData} (h1 : Dp K H x d) (h2 : Dp K H y e) (h3 : SeqAt.shaped d = true) (h4 : SeqAt.shaped e = true) (q : Q (.bl (!PyData.eqv d e)) H) : rNeA K x y H Q := .inr (.inl ⟨d, e, h1, h2, h3, h4, q⟩)
theorem go_rI0 {g : Int → Int → V} {i j : Int} (q : Q (g i j) H) : rI0 g (.int i) (.int j) H Q := ⟨i, j, rfl, rfl, q⟩
theorem go_isN (q : Q (.bl (decide (x = .non))) H) : rIsN x .non H Q := ⟨rfl, q⟩
theorem go_notN (q : Q (.bl (!decide (x = .non))) H) : rNotN x .non H Q := ⟨rfl, q⟩
theorem go_lenS {z : Str} (h : z.length ≤ sizeLine) (q : Q (.int z.length) H) : rLenK K [.str z] H Q := ⟨.str z, z.length, rfl, ⟨h, rfl⟩, q⟩
theorem go_lenL {a : Addr} {xs : List V} (h : SqL K H a xs) (q : Q (.int xs.length) H) : rLenK K [.ref a] H Q := ⟨.ref a, xs.length, rfl, .inl ⟨xs, h, rfl⟩, q⟩
theorem go_lenT {a : Addr} {xs : List V} (h : SqT K H a xs) (q : Q (.int xs.length) H) : rLenK K [.ref a] H Q := ⟨.ref a, xs.length, rfl, .inr ⟨xs, h, rfl⟩, q⟩
theorem go_joinL {a : Str} {p : Addr} {ys : List Str} (h : SqL K H p (ys.map V.str)) (hz : (ys.map (·.length)).sum + ys.length * a.length ≤ 16777216) (q : Q (.str (Txt.join a ys)) H) : rJoinK K (.str a) [.ref p] H Q := ⟨a, p, ys, rfl, rfl, .inl h, hz, q⟩
theorem go_tupL {p : Addr} {ys : List V} (h : SqL K H p ys) (q : ∀ l, H l = none → Q (.ref l) (upd H l (.tup ys))) : rTupK K [.ref p] H Q := ⟨p, ys, rfl, .inl ⟨h, q⟩⟩
theorem go_all {p : Addr} {bs : List Bool} (h : SqL K H p (bs.map V.bl)) (q : Q (.bl (bs.all id)) H) : rAll K [.ref p] H Q := ⟨p, bs, rfl, h, q⟩
theorem go_any {p : Addr} {bs : List Bool} (h : SqL K H p (bs.map V.bl)) (q : Q (.bl (bs.any id)) H) : rAny K [.ref p] H Q := ⟨p, bs, rfl, h, q⟩
theorem go_sum {p : Addr} {ns : List Int} (h : SqL K H p (ns.map V.int)) (q : Q (.int ns.sum) H) : rSum K [.ref p] H Q := ⟨p, ns, rfl, h, q⟩
theorem go_inS (h : ∃ p xs, y = .ref p ∧ (SqL K H p xs ∨ SqT K H p xs) ∧ flatV x = true ∧ xs.all flatV = true ∧ Q (.bl (inV x xs)) H) : rInA K x y H Q := by
  obtain ⟨p, xs, h1, h2, h3, h4, q⟩ := h
  exact .inl ⟨p, xs, h1, h2, h3, h4, q⟩
theorem go_inT {i j : Str} (q : Q (.bl (!(Builtin.Str.occurrences j i 0 j.length 1).isEmpty)) H) : rInA K (.str i) (.str j) H Q := .inr ⟨i, j, rfl, rfl, q⟩
end
theorem iteNF {A B : Prop} (h : A) : if (!false) = true then A else B := h
theorem iteNT {A B : Prop} (h : B) : if (!true) = true then A else B := h
theorem sq_of {K : Frag} {H : Hp} {a : Addr} {xs : List V} (h : H a = some (.lst xs)) : SqL K H a xs := .inl (.inl h)
theorem st_of {K : Frag} {H : Hp} {a : Addr} {xs : List V} (h : H a = some (.tup xs)) : SqT K H a xs := .inl (.inl h)
theorem sq_new {K : Frag} {H : Hp} {p : Addr} {xs : List V} : SqL K (upd H p (.lst xs)) p xs := .inl (.inl upd_same)
theorem st_new {K : Frag} {H : Hp} {p : Addr} {xs : List V} : SqT K (upd H p (.tup xs)) p xs := .inl (.inl upd_same)
theorem go_forT {K : Frag} {te : TE} {g : TG} {tb : TS} {D : Ends} {σ : St} {H : Hp} (a : Addr) (xs : List V) (Pv : Nat → St → Hp → Prop) (hs : ∀ R : VK, R (.ref a) H → te σ H R) (h0 : Pv 0 σ H) (hl : ∀ i σ H, i ≤ xs.length → Pv i σ H → SqT K H a xs)
    (step : ∀ (i : Nat) (x : V) (σ : St) (H : Hp), xs[i]? = some x → Pv i σ H → g x σ H fun σ2 H2 => tb { D with nx := Pv (i + 1), ct := Pv (i + 1), bk := D.nx } σ2 H2) (hd : ∀ σ H, Pv xs.length σ H → D.nx σ H) : tFor (iTup K te) g tb D σ H :=
  hs _ ⟨a, rfl, ⟨xs, hl 0 σ H (Nat.zero_le _) h0⟩, for_tup Pv h0 hl step hd⟩
theorem go_forL {K : Frag} {te : TE} {g : TG} {tb : TS} {D : Ends} {σ : St} {H : Hp} (a : Addr) (xs : List V) (Pv : Nat → St → Hp → Prop) (hs : ∀ R : VK, R (.ref a) H → te σ H R) (h0 : Pv 0 σ H) (hl : ∀ i σ H, i ≤ xs.length → Pv i σ H → SqL K H a xs)
    (step : ∀ (i : Nat) (x : V) (σ : St) (H : Hp), xs[i]? = some x → Pv i σ H → g x σ H fun σ2 H2 => tb { D with nx := Pv (i + 1), ct := Pv (i + 1), bk := D.nx } σ2 H2) (hd : ∀ σ H, Pv xs.length σ H → D.nx σ H) : tFor (iList K te) g tb D σ H :=
  hs _ ⟨a, rfl, ⟨xs, hl 0 σ H (Nat.zero_le _) h0⟩, for_list Pv h0 hl step hd⟩
theorem len0 : ("" : Str).length = 0 := rfl
theorem len1 : ("(" : Str).length = 1 := rfl
theorem len2 : (")" : Str).length = 1 := rfl
theorem len3 : ("'" : Str).length = 1 := rfl
theorem len4 : ("*" : Str).length = 1 := rfl
theorem len5 : ("+" : Str).length = 1 := rfl
theorem len6 : ("?" : Str).length = 1 := rfl
theorem len7 : ("{" : Str).length = 1 := rfl
theorem len8 : ("}" : Str).length = 1 := rfl
theorem len9 : (",}" : Str).length = 2 := rfl
theorem len10 : ("," : Str).length = 1 := rfl
theorem len11 : (" ; " : Str).length = 3 := rfl
theorem len12 : (" / " : Str).length = 3 := rfl
theorem len13 : (" " : Str).length = 1 := rfl
theorem len14 : ("&" : Str).length = 1 := rfl
theorem len15 : ("!" : Str).length = 1 := rfl
theorem len16 : ("." : Str).length = 1 := rfl
theorem len17 : ("~" : Str).length = 1 := rfl
theorem len18 : ("[" : Str).length = 1 := rfl
theorem len19 : ("[^" : Str).length = 2 := rfl
theorem len20 : ("]" : Str).length = 1 := rfl
theorem len21 : ("-" : Str).length = 1 := rfl
theorem lenE : Str.empty.length = 0 := rfl
theorem emp_app (x : Str) : Str.empty ++ x = x := by
  obtain ⟨a⟩ := x
  show (⟨#[] ++ a⟩ : Str) = ⟨a⟩
  rw [Array.empty_append]
theorem go_cut {te : TE} {σ : St} {H : Hp} {R : VK} (P : V → Hp → Prop) (h : ∀ R : VK, (∀ v H', P v H' → R v H') → te σ H R) (q : ∀ v H', P v H' → R v H') : te σ H R := h R q
theorem go_ifF {t : TT} {ts1 ts2 : TS} {D : Ends} {σ : St} {H : Hp} (h : ∀ R : Bool → Hp → Prop, (∀ H', Ext H H' → R false H') → t σ H R) (q : ∀ H', Ext H H' → ts2 D σ H') : tIfS t ts1 ts2 D σ H := h _ fun H' x => (if_neg Bool.false_ne_true).symm ▸ q H' x
theorem go_ifT {t : TT} {ts1 ts2 : TS} {D : Ends} {σ : St} {H : Hp} (h : ∀ R : Bool → Hp → Prop, (∀ H', Ext H H' → R true H') → t σ H R) (q : ∀ H', Ext H H' → ts1 D σ H') : tIfS t ts1 ts2 D σ H := h _ fun H' x => (if_pos rfl).symm ▸ q H' x
theorem go_gsub {to ti : TE} {t : TSet} {v : V} {σ : St} {H : Hp} {q : St → Hp → Prop} (h : to σ H fun o H1 => ti σ H1 fun i H2 => t o i v H2 fun H3 => q σ H3) : gSub to ti t v σ H q := h
theorem box {H : Hp} {p : Addr} (hp : H p = none) : ∃ f : HO → Hp, (∀ o, f o = upd H p o) ∧ (∀ o, Ext H (f o)) ∧ ∀ o, f o p = some o := ⟨fun o => upd H p o, fun _ => rfl, fun _ => Ext.new hp, fun _ => upd_same⟩
theorem boxX (H : Hp) (p : Addr) : ∃ f : HO → Hp, (∀ o, f o = upd H p o) ∧ (∀ o, ExtX p H (f o)) ∧ ∀ o, f o p = some o := ⟨fun o => upd H p o, fun _ => rfl, fun _ => ExtX.upd, fun _ => upd_same⟩
theorem lcAt {te : TE} {σ : St} {H : Hp} {Q : VK} {wi : TI} {g : TG} {tt : TT} {vs : List Nat} (h : tLc wi g tt te vs σ H Q) : tLc wi g tt te vs σ H Q := h
/-- [e for sign in text], the text known, the heap unchanged by e -/
theorem go_lcS {te tl : TE} {σ : St} {H : Hp} {Q : VK} {i : Nat} (x : Str) (f : Nat → V) (hs : ∀ R : VK, R (.str x) H → tl σ H R) (hz : x.cps.size ≤ 10000)
    (hte : ∀ (c : Nat) (H1 : Hp), Ext H H1 → ∀ R : VK, R (f c) H1 → te ((wipe σ [i]).set i (some (.str ⟨#[c]⟩))) H1 R)
    (hw : ∀ x, wipe ((wipe σ [i]).set i (some x)) [i] = wipe σ [i]) (hd : ∀ D H', H D = none → Ext H H' → H' D = some (.lst (x.cps.toList.map f)) → Q (.ref D) H') : tLc (iStr tl) (gName i) tYes te [i] σ H Q := by
  refine hs _ ⟨x, rfl, fun D hD => ?_⟩
  refine lc_mapS f hD (Nat.le_trans hz (by rw [sizeLine_eq]; decide)) (fun j c H1 _ x R r => hte c H1 x R r) hw ?_
  exact hd D _ hD (Ext.new hD) upd_same
/-- [e for x in a tuple] -/
theorem go_lcT {K : Frag} {te tl : TE} {σ : St} {H : Hp} {Q : VK} {i : Nat} (a : Addr) (xs : List V) (f : V → V) (hs : ∀ R : VK, R (.ref a) H → tl σ H R) (hS : SqT K H a xs) (hz : xs.length ≤ 10000)
    (hte : ∀ (j : Nat) (x : V) (H1 : Hp), xs[j]? = some x → Ext H H1 → ∀ R : VK, R (f x) H1 → te ((wipe σ [i]).set i (some x)) H1 R)
    (hw : ∀ x, wipe ((wipe σ [i]).set i (some x)) [i] = wipe σ [i]) (hd : ∀ D H', H D = none → Ext H H' → H' D = some (.lst (xs.map f)) → Q (.ref D) H') : tLc (iTup K tl) (gName i) tYes te [i] σ H Q := by
  refine hs _ ⟨a, rfl, ⟨xs, hS⟩, fun D hD => ?_⟩
  refine lc_mapT f hS hD (Nat.le_trans hz (by rw [sizeLine_eq]; decide)) hte hw ?_
  exact hd D _ hD (Ext.new hD) upd_same
theorem all_id {bs : List Bool} (h : ∀ j : Nat, j < bs.length → bs[j]? = some true) : bs.all id = true := by
  rw [List.all_eq_true]
  intro b hb
  obtain ⟨j, hj⟩ := List.getElem?_of_mem hb
  have l : j < bs.length := by
    rcases Nat.lt_or_ge j bs.length with z | z
    · exact z
    · rw [List.getElem?_eq_none z] at hj
      cases hj
  rw [h j l] at hj
  cases hj
  rfl
theorem not_all_id {bs : List Bool} {j : Nat} (h : bs[j]? = some false) : bs.all id = false := by
  rw [List.all_eq_false]
  exact ⟨false, List.mem_of_getElem? h, by simp⟩
/-- what is_instance says of an own class -/
theorem go_isiC {K : Frag} {H : Hp} {v : V} {C : Addr} {b : Bool} {Q : VK} (h : Isi K H v (.ref C) b) (q : Q (.bl b) H) : rIsi K [v, .ref C] H Q := isi_cl h (.own C) q
theorem Ext.app {H H' : Hp} {a : Addr} {o : HO} (x : Ext H H') (h : H a = some o) : H' a = some o := x a o h
theorem ExtX.app {H H' : Hp} {a b : Addr} {o : HO} (x : ExtX b H H') (n : a ≠ b) (h : H a = some o) : H' a = some o := x a o n h
end L2.Pg

/-! how arguments are bound, of defs at their places -/
namespace L2.Pg
open PySem PySem.Spec PyProof.Rows L2
open PySem.W (Frag findIn)
section
variable {K : Frag} {d : DefP} {ps : List Str}
theorem DefOk.at0 (D : DefOk K d) (h0 : d.dfl = []) : ∃ (cl : List (Str × Addr)) (kV doc pm : Value) (an : Option Addr) (cdv ct : Value), fdAt K (d.pa.at_ K) = PySem.W.fnX d.name d.qual d.params d.body d.scope cl .none kV doc pm an cdv ct ∧ KwdV K kV (d.kws K) := by
  obtain ⟨oc, od, cl, dV, kV, doc, pm, an, cdv, ct, osl, lk, cd, fl, clo, df, kw⟩ := D.ex
  have e : d.dvs K = [] := by
    unfold DefP.dvs
    rw [h0] <;> rfl
  rw [e] at df
  rcases df with ⟨_, rfl⟩ | ⟨z, _⟩
  · refine ⟨cl, kV, doc, pm, an, cdv, ct, ?_, kw⟩
    unfold fdAt
    rw [lk] <;> rfl
  · exact absurd rfl z
/-- every parameter given by position -/
theorem DefOk.binds (D : DefOk K d) (h0 : d.dfl = []) (hb : ∀ (cl : List (Str × Addr)) (kV doc pm : Value) (an : Option Addr) (cdv ct : Value) (us : List Value), us.length = ps.length →
    bindArgs (PySem.W.fnX d.name d.qual d.params d.body d.scope cl .none kV doc pm an cdv ct) ⟨us, []⟩ = pure (ps.zip us)) : Binds K (fdAt K (d.pa.at_ K)) ps [] := by
  obtain ⟨cl, kV, doc, pm, an, cdv, ct, e, _⟩ := D.at0 h0
  rw [e]
  exact Binds.all fun us hl => hb cl kV doc pm an cdv ct us hl
/-- n values by position, keywords ks, the keyword-only parameters ms left out -/
theorem DefOk.kb (D : DefOk K d) (h0 : d.dfl = []) (n : Nat) (ks : List Str) (ms : List (Str × V)) (g : {α : Type} → List α → List α → List α → List α) (hms : ∀ q ∈ ms, q ∈ d.kws K)
    (hrel : ∀ {vs mz zs : List V} {us mv ws : List Value}, Vals vs us → Vals mz mv → Vals zs ws → Vals (g vs mz zs) (g us mv ws))
    (h : ∀ (cl : List (Str × Addr)) (kV : Value) (Dd : Addr) (doc pm : Value) (an : Option Addr) (cdv ct : Value) (us mv ws : List Value), (ms ≠ [] → kV = .ref Dd) → us.length = n → mv.length = ms.length → ws.length = ks.length →
      KwChain Dd ((ms.map (·.1)).zip mv) (bindArgs (PySem.W.fnX d.name d.qual d.params d.body d.scope cl .none kV doc pm an cdv ct) ⟨us, ks.zip ws⟩) (ps.zip (g us mv ws))) :
    ∃ mv : List Value, KBn K (fdAt K (d.pa.at_ K)) ps n ks (fun us ws => g us mv ws) (fun vs zs => g vs (ms.map (·.2)) zs) := by
  obtain ⟨cl, kV, doc, pm, an, cdv, ct, e, hK⟩ := D.at0 h0
  rw [e]
  have hD : ∃ Dd : Addr, (ms ≠ [] → kV = .ref Dd) ∧ ∀ q ∈ ms, ∃ u, PySem.W.nsIn K Dd q.1 = some (some u) ∧ RelV q.2 u := by
    rcases hK with e | ⟨Dd, e, hq⟩
    · refine ⟨0, fun z => ?_, fun q hq => ?_⟩
      · cases ms with
        | nil => exact absurd rfl z
        | cons m r =>
          have z2 := hms m List.mem_cons_self
          rw [e] at z2
          cases z2
      · have z2 := hms q hq
        rw [e] at z2
        cases z2
    · exact ⟨Dd, fun _ => e, fun q hm => hq q (hms q hm)⟩
  obtain ⟨Dd, hkv, hq⟩ := hD
  obtain ⟨mv, hl, rk, hks⟩ := kwd_vals (ms := ms) hq
  exact ⟨mv, ⟨fun s us ws X l1 l2 => BindsTo.of_looks fun M => KwChain.looks X hks (h cl kV Dd doc pm an cdv ct us mv ws hkv l1 hl l2), fun r1 r2 => hrel r1 rk r2⟩⟩
/-- no keywords written: the keyword-only defaults fill up -/
theorem DefOk.kd (D : DefOk K d) (h0 : d.dfl = []) (n : Nat) (ms : List (Str × V)) (hms : ∀ q ∈ ms, q ∈ d.kws K) (hp : ps.length = n + ms.length)
    (h : ∀ (cl : List (Str × Addr)) (kV : Value) (Dd : Addr) (doc pm : Value) (an : Option Addr) (cdv ct : Value) (us mv : List Value), (ms ≠ [] → kV = .ref Dd) → us.length = n → mv.length = ms.length →
      KwChain Dd ((ms.map (·.1)).zip mv) (bindArgs (PySem.W.fnX d.name d.qual d.params d.body d.scope cl .none kV doc pm an cdv ct) ⟨us, []⟩) (ps.zip (us ++ mv))) :
    ∃ ds : List Value, Vals (ms.map (·.2)) ds ∧ Binds K (fdAt K (d.pa.at_ K)) ps ds := by
  obtain ⟨cl, kV, doc, pm, an, cdv, ct, e, hK⟩ := D.at0 h0
  rw [e]
  have hD : ∃ Dd : Addr, (ms ≠ [] → kV = .ref Dd) ∧ ∀ q ∈ ms, ∃ u, PySem.W.nsIn K Dd q.1 = some (some u) ∧ RelV q.2 u := by
    rcases hK with e | ⟨Dd, e, hq⟩
    · refine ⟨0, fun z => ?_, fun q hq => ?_⟩
      · cases ms with
        | nil => exact absurd rfl z
        | cons m r =>
          have z2 := hms m List.mem_cons_self
          rw [e] at z2
          cases z2
      · have z2 := hms q hq
        rw [e] at z2
        cases z2
    · exact ⟨Dd, fun _ => e, fun q hm => hq q (hms q hm)⟩
  obtain ⟨Dd, hkv, hq⟩ := hD
  obtain ⟨mv, hl, rk, hks⟩ := kwd_vals (ms := ms) hq
  refine ⟨mv, rk, fun s us X l => BindsTo.of_looks fun M => KwChain.looks X hks (h cl kV Dd doc pm an cdv ct us mv hkv ?_ hl)⟩
  rw [List.length_append, hp, hl] at l
  omega
end
section
variable {P : Program} {w : World} {K : Frag} {mg : Str → Option Value} {base : Heap} {d : DefP} {fld : Str}
theorem err_ok {x : Str} (g : mg x = some (.ref (He.ga K x))) (o : OexC K (He.ga K x)) (m : PySem.W.findIn K (.ref (He.ga K x)) "__init__" = some (some (.ref (d.pa.at_ K)))) (D : DefOk K d) (h0 : d.dfl = [])
    (F : FnOk P w K mg base (L2.CX P w) 2 (d.pa.at_ K) (fdAt K (d.pa.at_ K)) ["self", fld] (spErr (He.ga K x) fld))
    (hb : ∀ (cl : List (Str × Addr)) (kV doc pm : Value) (an : Option Addr) (cdv ct : Value) (us : List Value), us.length = (["self", fld] : List Str).length →
      bindArgs (PySem.W.fnX d.name d.qual d.params d.body d.scope cl .none kV doc pm an cdv ct) ⟨us, []⟩ = pure ((["self", fld] : List Str).zip us)) : ErrOk P w K mg base x (He.ga K x) fld :=
  ⟨g, o, _, _, m, D.ty, F, D.binds h0 hb⟩
end
end L2.Pg

/-! expressions made, compared, written -/
namespace L2.Pg
open PySem PySem.Spec PyProof.Rows L2
open PySem.W (Frag findIn)
theorem ExAll.len {K : Frag} {H : Hp} : ∀ {es : List Ex} {vs : List V}, ExAll K H es vs → vs.length = es.length
  | [], vs, h => by
    unfold ExAll at h
    subst h
    rfl
  | e :: r, vs, h => by
    unfold ExAll at h
    obtain ⟨v, rs, rfl, h2, h3⟩ := h
    rw [List.length_cons, List.length_cons, ExAll.len h3]
theorem ExAll.at_ {K : Frag} {H : Hp} : ∀ {es : List Ex} {vs : List V}, ExAll K H es vs → ∀ {j : Nat} {v : V}, vs[j]? = some v → ∃ e, es[j]? = some e ∧ ExAt K H e v
  | [], vs, h, j, v, q => by
    unfold ExAll at h
    subst h
    cases q
  | e :: r, vs, h, j, v, q => by
    unfold ExAll at h
    obtain ⟨u, rs, rfl, h2, h3⟩ := h
    cases j with
    | zero =>
      cases q
      exact ⟨e, rfl, h2⟩
    | succ j => exact ExAll.at_ (j := j) h3 q
theorem ExAt.isi {K : Frag} (T : ExEnv K) {H : Hp} {e : Ex} {v : V} (h : ExAt K H e v) : Isi K H v (.ref (He.ga K "Expression")) true := by
  obtain ⟨a, dx, tp, ka, vs, us, rfl, ha, _⟩ := h.get
  exact ⟨_, (T.cls e.kind).ins.ty ha, (T.cls e.kind).sub⟩
theorem ExAt.isiT {K : Frag} (T : ExEnv K) {H : Hp} {e : Ex} {v : V} (h : ExAt K H e v) {t : String} (hk : ∀ k, PySem.W.kitOne K (.ref (He.ga K (Kind.cls k))) (.type t) = some false) : Isi K H v (.type t) false := by
  obtain ⟨a, dx, tp, ka, vs, us, rfl, ha, _⟩ := h.get
  exact ⟨_, (T.cls e.kind).ins.ty ha, hk e.kind⟩
/-- an expression, or something else -/
def ExIs (K : Frag) (H : Hp) (v : V) : Option Ex → Prop
  | some e => ExAt K H e v
  | none => Isi K H v (.ref (He.ga K "Expression")) false
def groupedS (e : Ex) (ks : List Str) : Str := if e.kind.name ∈ ks then "(" ++ e.text ++ ")" else e.text
def sp_grouped (K : Frag) : Sp := fun vs H Q _ => ∃ (v : V) (p : Addr) (ks : List Str) (e : Ex), vs = [v, .ref p] ∧ SqT K H p (ks.map V.str) ∧ ExAt K H e v ∧ Q (.str (groupedS e ks)) H
theorem in_strs (x : Str) (ks : List Str) : inV (.str x) (ks.map V.str) = decide (x ∈ ks) := by
  unfold inV
  rw [Bool.eq_iff_iff, List.any_map, List.any_eq_true, decide_eq_true_iff]
  constructor
  · rintro ⟨y, hy, e⟩
    have e2 : (V.str y) = V.str x := by simpa [L2.eqV] using e
    injection e2 with e2
    rwa [e2] at hy
  · intro h
    exact ⟨x, h, by simp [L2.eqV]⟩
theorem flat_strs (ks : List Str) : (ks.map V.str).all flatV = true := by
  rw [List.all_map, List.all_eq_true]
  intro x _
  rfl
/-- made: the expression e stands at a -/
def madeA (K : Frag) (a : Addr) (e : Ex) (Q : VK) (H : Hp) : Prop := ∀ H', ExtX a H H' → ExAt K H' e (.ref a) → Q .non H'
def fit (e : Ex) : Option Ex := if e.size ≤ 40 ∧ e.levels ≤ 6 then some e else none
def doneA (K : Frag) (a : Addr) (oe : Option Ex) (Q : VK) (E : XK) (H : Hp) : Prop := match oe with
  | some e => madeA K a e Q H
  | none => badA K a E H
theorem ExtX.del {a : Addr} {H H' : Hp} (x : ExtX a H H') : Ext (L2.del H a) H' := fun b o e => by
  by_cases n : b = a
  · subst n
    rw [del_same] at e
    cases e
  · rw [del_ne n] at e
    exact x b o n e
theorem Ext.updD {a : Addr} {H H' : Hp} {o : HO} (x : Ext (L2.del H a) H') : Ext (L2.del H a) (upd H' a o) := fun b u e => by
  have n : b ≠ a := fun z => by
    subst z
    rw [del_same] at e
    cases e
  rw [upd_ne n]
  exact x b u e
theorem Ext.toX {a : Addr} {H H' : Hp} (x : Ext (L2.del H a) H') : ExtX a H H' := fun b o n e => x b o (by rw [del_ne n]; exact e)
/-- known before a was, known beside a -/
theorem Ext.side {a : Addr} {H0 H : Hp} (x : Ext H0 H) (h : H0 a = none) : Ext H0 (L2.del H a) := fun b o e => by
  have n : b ≠ a := ne_of_none e h
  rw [del_ne n]
  exact x b o e
/-- Expression.__init__: all but the class's own attributes -/
def sp_Expression___init__ (K : Frag) : Sp := fun vs H Q E => ∃ (a dx tp va : Addr) (z : Str) (k : Kind) (us : List V) (ps : List Ex) (vals : List PyData), vs = [.ref a, .ref tp, .ref va, .str z] ∧ H a = some (.ins (He.ga K k.cls) dx []) ∧
  SqT K (L2.del H a) tp us ∧ ExAll K (L2.del H a) ps us ∧ us.length ≤ 8 ∧ Dp K (L2.del H a) (.ref va) (.tuple vals) ∧
  (if (Ex.mk k vals ps z).size ≤ 40 ∧ (Ex.mk k vals ps z).levels ≤ 6 then ∀ ka H', ExtX a H H' → H' a = some (.ins (He.ga K k.cls) dx (exFs tp ka (Ex.mk k vals ps z).size (Ex.mk k vals ps z).levels z [])) → Dp K (L2.del H' a) (.ref ka) (Ex.mk k vals ps z).key → Q .non H'
    else badA K a E H)
theorem sum_sizes (ps : List Ex) : (ps.map fun e => (e.size : Int)).sum = (sizes ps : Int) := by
  induction ps with
  | nil => rfl
  | cons e r ih =>
    rw [List.map_cons, List.sum_cons, ih]
    show (e.size : Int) + (sizes r : Int) = ((e.size + sizes r : Nat) : Int)
    omega
theorem lvm_mem {r : List Ex} : ∀ m : Nat, levelsMax m r = m ∨ ∃ e ∈ r, levelsMax m r = e.levels := by
  induction r with
  | nil =>
    intro m
    exact .inl rfl
  | cons e r ih =>
    intro m
    have e0 : levelsMax m (e :: r) = levelsMax (max m e.levels) r := by rw [levelsMax]
    rw [e0]
    rcases ih (max m e.levels) with h | ⟨x, hx, h⟩
    · rw [h]
      rcases Nat.le_total m e.levels with z | z
      · exact .inr ⟨e, List.mem_cons_self, by omega⟩
      · exact .inl (by omega)
    · exact .inr ⟨x, List.mem_cons_of_mem _ hx, h⟩
theorem go_maxL {K : Frag} {H : Hp} {Q : VK} {p : Addr} {e : Ex} {r : List Ex} (h : SqL K H p ((e :: r).map fun x => V.int x.levels)) (q : Q (.int (levelsMax e.levels r : Nat)) H) : rMax K [.ref p] H Q := by
  refine ⟨p, (e :: r).map fun x => (x.levels : Int), rfl, by rw [List.map_map]; exact h, by simp, fun m hm hy => ?_⟩
  have h1 := lv_le (ps := r) e.levels
  obtain ⟨x, hx, rfl⟩ := List.mem_map.mp hm
  have up : x.levels ≤ levelsMax e.levels r := by
    rcases List.mem_cons.mp hx with rfl | hx
    · exact h1.1
    · exact h1.2 x hx
  have dn : levelsMax e.levels r ≤ x.levels := by
    rcases lvm_mem (r := r) e.levels with z | ⟨y, hy2, z⟩
    · have := hy _ (List.mem_map.mpr ⟨e, List.mem_cons_self, rfl⟩)
      omega
    · have := hy _ (List.mem_map.mpr ⟨y, List.mem_cons_of_mem _ hy2, rfl⟩)
      omega
  have ee : x.levels = levelsMax e.levels r := Nat.le_antisymm up dn
  rw [ee]
  exact q
/-- the keys of the parts -/
theorem ExAll.keysV {K : Frag} {H : Hp} : ∀ {ps : List Ex} {us : List V}, ExAll K H ps us → ∃ ks : List V, ks.length = us.length ∧ DpAll K H ks (keys ps) ∧
    ∀ (j : Nat) (x y : V), us[j]? = some x → ks[j]? = some y → ∃ (b dx : Addr) (e : Ex) (fs : List (Str × V)), x = .ref b ∧ H b = some (.ins (He.ga K e.kind.cls) dx fs) ∧ fs.lookup ("own_key" : Str) = some y
  | [], us, h => by
    unfold ExAll at h
    subst h
    exact ⟨[], rfl, by unfold keys; exact .nil, fun j x y q _ => by cases q⟩
  | e :: r, us, h => by
    unfold ExAll at h
    obtain ⟨v, rs, rfl, h2, h3⟩ := h
    obtain ⟨ks, l, d, f⟩ := ExAll.keysV h3
    obtain ⟨a, dx, tp, ka, vs, us, rfl, ha, _, _, _, hk, _⟩ := ExAt.get h2
    refine ⟨.ref ka :: ks, by rw [List.length_cons, List.length_cons, l], by unfold keys; exact .cons hk d, fun j x y q1 q2 => ?_⟩
    cases j with
    | zero =>
      cases q1
      cases q2
      exact ⟨a, dx, e, _, rfl, ha, rfl⟩
    | succ j => exact f j x y q1 q2
/-- [e for x in a tuple], by indexes -/
theorem go_lcI {K : Frag} {te tl : TE} {σ : St} {H : Hp} {Q : VK} {i : Nat} (a : Addr) (xs ys : List V) (hs : ∀ R : VK, R (.ref a) H → tl σ H R) (hS : SqT K H a xs) (hz : xs.length ≤ 10000) (hl : ys.length = xs.length)
    (hte : ∀ (j : Nat) (x y : V) (H1 : Hp), xs[j]? = some x → ys[j]? = some y → Ext H H1 → ∀ R : VK, R y H1 → te ((wipe σ [i]).set i (some x)) H1 R)
    (hw : ∀ x, wipe ((wipe σ [i]).set i (some x)) [i] = wipe σ [i]) (hd : ∀ D H', H D = none → Ext H H' → H' D = some (.lst ys) → Q (.ref D) H') : tLc (iTup K tl) (gName i) tYes te [i] σ H Q := by
  refine hs _ ⟨a, rfl, ⟨xs, hS⟩, fun D hD => ?_⟩
  refine lc_tup (K := K) (a := a) (xs := xs) (fun n H' => H' = upd H D (.lst (ys.take n))) ?_ ?_ ?_ ?_
  · rfl
  · intro n H' _ e
    subst e
    exact (Ext.new hD).seqT hS
  · intro n x H' hx e
    subst e
    have hlt : n < xs.length := by
      rcases Nat.lt_or_ge n xs.length with h | h
      · exact h
      · rw [List.getElem?_eq_none h] at hx
        cases hx
    have hy : ys[n]? = some ys[n] := List.getElem?_eq_getElem (by omega)
    refine ⟨hw x, ?_⟩
    show tYes _ _ _
    unfold tYes
    dsimp only
    rw [if_pos rfl]
    refine hte n x _ _ hx hy (Ext.new hD) _ ?_
    refine ⟨ys.take n, upd_same, ?_, ?_⟩
    · rw [List.length_take, sizeLine_eq]
      omega
    · rw [upd_upd, List.take_add_one, hy]
      rfl
  · intro H' e
    subst e
    rw [← hl, List.take_length]
    exact hd D _ hD (Ext.new hD) upd_same
theorem go_sup {K : Frag} {D g : Addr} {m : Str} {sp : Sp} {E : XK} {t : TA} {σ : St} {H : Hp} {Q : VK} (a C dx : Addr) (fs : List (Str × V)) (h0 : σ[0]? = some (some (.ref a))) (hC : H a = some (.ins C dx fs))
    (m1 : PySem.W.mroIn K C (.ref D) = some true) (m2 : PySem.W.ks_superIn K C D m = some (some (.ref g))) (h : t σ H fun vs H1 => sp (.ref a :: vs) H1 Q E) : tSup K D g m sp E t σ H Q := ⟨a, C, dx, fs, h0, hC, ⟨m1, m2⟩, h⟩
def sp_Expression___eq__ (K : Frag) : Sp := fun vs H Q _ => ∃ (a : Addr) (y : V) (e : Ex) (oe : Option Ex), vs = [.ref a, y] ∧ ExAt K H e (.ref a) ∧ ExIs K H y oe ∧ Q (.bl (match oe with | some e2 => PyData.eqv e.key e2.key | none => false)) H
/-- the literal of a text -/
def litX (x : Str) : Ex := .mk .lit [.str x] [] (quotedS x)
def litO : V → Option Ex
  | .str x => if 1 ≤ x.length ∧ x.length ≤ 12 then some (litX x) else none
  | _ => none
/-- a text that one may look at, or no text -/
def StrIs (K : Frag) (H : Hp) (v : V) : Prop := (∃ x, v = .str x ∧ x.length ≤ sizeLine ∧ PyData.strOk x = true) ∨ (Isi K H v (.type "str") false ∧ ∀ x, v ≠ .str x)
/-- an int, a bool, or neither -/
def IntIs (K : Frag) (H : Hp) (v : V) : Prop := (∃ i, v = .int i) ∨ (∃ b, v = .bl b) ∨ (Isi K H v (.type "int") false ∧ ∀ i, v ≠ .int i)
def spInit (K : Frag) (C : Addr) (n : Nat) (pre : List V → Hp → Prop) (f : List V → Hp → Option Ex → Prop) : Sp := fun vs H Q E => ∃ (a dx : Addr) (xs : List V) (oe : Option Ex), vs = .ref a :: xs ∧ xs.length = n ∧ H a = some (.ins C dx []) ∧ pre xs (L2.del H a) ∧ f xs (L2.del H a) oe ∧ doneA K a oe Q E H
def sp_Literal___init__ (K : Frag) : Sp := fun vs H Q E => ∃ (a dx : Addr) (v : V), vs = [.ref a, v] ∧ H a = some (.ins (He.ga K "Literal") dx []) ∧ StrIs K H v ∧ doneA K a (litO v) Q E H
def sp_AnyChar___init__ (K : Frag) : Sp := fun vs H Q E => ∃ (a dx : Addr), vs = [.ref a] ∧ H a = some (.ins (He.ga K "AnyChar") dx []) ∧ madeA K a (.mk .any [] [] ".") Q H
/-- a leaf made -/
theorem leaf_size {k : Kind} {vals : List PyData} {z : Str} : (Ex.mk k vals [] z).size = 1 := by rw [Ex.size, sizes]
theorem leaf_levels {k : Kind} {vals : List PyData} {z : Str} : (Ex.mk k vals [] z).levels = 0 := by rw [Ex.levels]
theorem ExAt.make {K : Frag} {H : Hp} {k : Kind} {vals : List PyData} {ps : List Ex} {z : Str} {a dx tp ka : Addr} {vs us : List V} (ha : H a = some (.ins (He.ga K k.cls) dx (exFs tp ka (Ex.mk k vals ps z).size (Ex.mk k vals ps z).levels z (k.own us vs))))
    (hS : SqT K H tp vs) (hp : ExAll K H ps vs) (hd : DpAll K H us vals) (hk : Dp K H (.ref ka) (Ex.mk k vals ps z).key) (hf : (Ex.mk k vals ps z).Fits) : ExAt K H (.mk k vals ps z) (.ref a) := by
  unfold ExAt
  exact ⟨a, dx, tp, 0, ka, vs, us, rfl, ha, hS, hp, hd, hk, hf⟩
/-- super().__init__(..) of a kind, then what is left to do -/
theorem init_sp {K : Frag} {k : Kind} {a dx tp va : Addr} {z : Str} {us ws : List V} {ps : List Ex} {vals : List PyData} {H : Hp} {Q : VK} {E : XK} (ha : H a = some (.ins (He.ga K k.cls) dx [])) (hS : SqT K (L2.del H a) tp us) (hps : ExAll K (L2.del H a) ps us) (h8 : us.length ≤ 8)
    (hws : SqT K (L2.del H a) va ws) (hvs : DpAll K (L2.del H a) ws vals) (ht : z.length + 8 ≤ 300 * (Ex.mk k vals ps z).size) (hl : PyData.canLayAll0 vals = true) (hd : PyData.depthAll vals = 0)
    (good : fit (.mk k vals ps z) = some (.mk k vals ps z) → ∀ ka H', ExtX a H H' → H' a = some (.ins (He.ga K k.cls) dx (exFs tp ka (Ex.mk k vals ps z).size (Ex.mk k vals ps z).levels z [])) →
      (∀ H'' fs, Ext (L2.del H' a) H'' → H'' a = some (.ins (He.ga K k.cls) dx (exFs tp ka (Ex.mk k vals ps z).size (Ex.mk k vals ps z).levels z fs)) → fs = k.own ws us → ExAt K H'' (.mk k vals ps z) (.ref a)) → Q .non H')
    (bad : fit (.mk k vals ps z) = none → badA K a E H) : sp_Expression___init__ K [.ref a, .ref tp, .ref va, .str z] H Q E := by
  refine ⟨a, dx, tp, va, z, k, us, ps, vals, rfl, ha, hS, hps, h8, .tup hws hvs, ?_⟩
  by_cases c : (Ex.mk k vals ps z).size ≤ 40 ∧ (Ex.mk k vals ps z).levels ≤ 6
  · rw [if_pos c]
    intro ka H' x h1 h2
    refine good (if_pos c) ka H' x h1 fun H'' fs y h3 h4 => ?_
    subst h4
    have xy : Ext (L2.del H a) H'' := (x.del.side del_same).tr y
    exact ExAt.make h3 (xy.seqT hS) (ExAll.mono xy _ _ hps) (xy.dpAll hvs) (y.dp h2) (fits_of c.1 c.2 ht hl hd hps.fits)
  · rw [if_neg c]
    exact bad (if_neg c)
theorem IntIs.pre {K : Frag} {H : Hp} {v : V} (h : IntIs K H v) (lo hi : Int) : (∃ i, v = .int i) ∨ (∃ b, v = .bl b) ∨ (Isi K H v (.type "int") false ∧ isInt v lo hi = false) := by
  rcases h with h | h | ⟨h, n⟩
  · exact .inl h
  · exact .inr (.inl h)
  · refine .inr (.inr ⟨h, ?_⟩)
    cases v with
    | int i => exact absurd rfl (n i)
    | _ => rfl
theorem Isi.mono {K : Frag} {H H' : Hp} {v : V} {u : Value} {b : Bool} (h : ∀ t, TyX K H v t → TyX K H' v t) : Isi K H v u b → Isi K H' v u b := fun ⟨t, h1, h2⟩ => ⟨t, h t h1, h2⟩
def prefixed : List Str := ["sequence", "choice", "ahead", "not", "repeat"]
def optD : Option Int → PyData
  | none => .none
  | some i => .int i
def repX (e : Ex) (l : Int) (h : Option Int) : Ex := .mk .rep [.int l, optD h] [e] (groupedS e prefixed ++ countS l h)
def repO : Option Ex → V → V → Option Ex
  | some e, .int l, .non => if 0 ≤ l ∧ l ≤ 20 then fit (repX e l none) else none
  | some e, .int l, .int h => if 0 ≤ l ∧ l ≤ 20 ∧ 1 ≤ h ∧ l ≤ h ∧ h ≤ 20 then fit (repX e l (some h)) else none
  | _, _, _ => none
def sp_Repeat___init__ (K : Frag) : Sp := fun vs H Q E => ∃ (a dx : Addr) (v lo hi : V) (oe : Option Ex), vs = [.ref a, v, lo, hi] ∧ H a = some (.ins (He.ga K "Repeat") dx []) ∧ (∀ H', Ext H H' → IntIs K H' lo) ∧ (∀ H', Ext H H' → IntIs K H' hi) ∧
  (∀ H', Ext (L2.del H a) H' → ExIs K H' v oe) ∧ doneA K a (repO oe lo hi) Q E H
theorem groupedS_len {e : Ex} {ks : List Str} : (groupedS e ks).length ≤ e.text.length + 2 := by
  unfold groupedS
  split
  · rw [strLen_append, strLen_append, show ("(" : Str).length = 1 from rfl, show (")" : Str).length = 1 from rfl]
    omega
  · omega
theorem countS_len {l h : Nat} (hl : l ≤ 20) (hh : h ≤ 20) : (countS l none).length ≤ 7 ∧ (countS l (some (h : Int))).length ≤ 7 := by
  have a : ∀ (i : Fin 21) (j : Fin 21), (countS (i.val : Nat) none).length ≤ 7 ∧ (countS (i.val : Nat) (some ((j.val : Nat) : Int))).length ≤ 7 := by decide +kernel
  exact a ⟨l, by omega⟩ ⟨h, by omega⟩
end L2.Pg

/-! the laws' own helpers: the source of numbers -/
namespace L2.Pg
open PySem PySem.Spec PyProof.Rows L2
open PySem.W (Frag findIn)
section
variable {K : Frag} {H : Hp} {Q : VK} {p : Addr} {xs : List V} {i : Int} {v : V}
theorem go_ixL (h : SqL K H p xs) (e : atI xs i = some v) (q : Q v H) : rIx K (.ref p) (.int i) H Q := .inl ⟨p, xs, i, v, rfl, rfl, h, e, q⟩
theorem go_ixT (h : SqT K H p xs) (e : atI xs i = some v) (q : Q v H) : rIx K (.ref p) (.int i) H Q := .inr (.inl ⟨p, xs, i, v, rfl, rfl, h, e, q⟩)
theorem go_rI {C : Int → Int → Prop} {g : Int → Int → V} {i j : Int} (c : C i j) (q : Q (g i j) H) : rI C g (.int i) (.int j) H Q := ⟨i, j, rfl, rfl, c, q⟩
theorem go_rU {g : Int → V} {i : Int} (q : Q (g i) H) : rU g (.int i) H Q := ⟨i, rfl, q⟩
end
theorem dp_ints {K : Frag} {H : Hp} : ∀ ns : List Int, DpAll K H (ns.map V.int) (ns.map PyData.int)
  | [] => .nil
  | n :: r => .cons (.int n) (dp_ints r)
theorem lay_ints : ∀ ns : List Int, PyData.canLayAll0 (ns.map PyData.int) = true
  | [] => rfl
  | n :: r => by
    rw [List.map_cons]
    show (true && PyData.canLayAll0 (r.map PyData.int)) = true
    rw [lay_ints r] <;> rfl
theorem depth_ints : ∀ ns : List Int, PyData.depthAll (ns.map PyData.int) = 0
  | [] => rfl
  | n :: r => by
    rw [List.map_cons]
    show max 0 (PyData.depthAll (r.map PyData.int)) = 0
    rw [depth_ints r] <;> rfl
theorem shaped_ints (ns : List Int) : SeqAt.shaped (.list (ns.map PyData.int)) = true := by
  unfold SeqAt.shaped
  show (PyData.canLayAll0 (ns.map PyData.int) && decide (PyData.depthAll (ns.map PyData.int) + 1 ≤ 64)) = true
  rw [lay_ints, depth_ints] <;> rfl
theorem eqv_nil (ns : List Int) : PyData.eqv (.list (ns.map PyData.int)) (.list []) = decide (ns = []) := by
  cases ns with
  | nil => rfl
  | cons n r => rfl
/-- _law_source(script, k) -/
def sp__law_source (K : Frag) : Sp := fun vs H Q _ => ∃ (a : Addr) (k : Int) (ns : List Int), vs = [.ref a, .int k] ∧ SqL K H a (ns.map V.int) ∧ 0 ≤ k ∧ k ≤ 1000 ∧
  ∀ c d p H', H p = none → Ext H H' → H' p = some (.lst [.int c, .int (3 * k), .int d]) → Q (.ref p) H'
/-- the source at p: its cell, its count, its rest -/
def Src (H : Hp) (p : Addr) (j : Int) : Prop := ∃ c d : Int, H p = some (.lst [.int c, .int j, .int d]) ∧ 0 ≤ j
/-- _law_next(source, many) -/
def sp__law_next (K : Frag) : Sp := fun vs H Q _ => ∃ (p : Addr) (m j : Int), vs = [.ref p, .int m] ∧ Src H p j ∧ j ≤ 1000000 ∧ 1 ≤ m ∧ m ≤ 1000000 ∧
  ∀ r j' H', 0 ≤ r → r < m → j' ≤ j + 1 → ExtX p H H' → Src H' p j' → Q (.int r) H'
/-- _law_pick(source, items) -/
def sp__law_pick (K : Frag) : Sp := fun vs H Q _ => ∃ (p l : Addr) (xs : List V) (j : Int), vs = [.ref p, .ref l] ∧ Src H p j ∧ j ≤ 1000000 ∧ l ≠ p ∧ SqL K H l xs ∧ 1 ≤ xs.length ∧ xs.length ≤ 100000 ∧ (∀ H', ExtX p H H' → SqL K H' l xs) ∧
  ∀ v j' H', v ∈ xs → j' ≤ j + 1 → ExtX p H H' → Src H' p j' → Q v H'
def primesV : List V := [.int 2147483647, .int 2147483629, .int 2147483587, .int 2147483579, .int 2147483563, .int 2147483549, .int 2147483543, .int 2147483497, .int 2147483489, .int 2147483477, .int 2147483423]
theorem prime_at (r : Int) (h0 : 0 ≤ r) (h1 : r < 11) : ∃ q : Int, atI primesV r = some (.int q) ∧ 1 ≤ q ∧ q < 2147483648 := by
  have hr : r = 0 ∨ r = 1 ∨ r = 2 ∨ r = 3 ∨ r = 4 ∨ r = 5 ∨ r = 6 ∨ r = 7 ∨ r = 8 ∨ r = 9 ∨ r = 10 := by omega
  rcases hr with rfl | rfl | rfl | rfl | rfl | rfl | rfl | rfl | rfl | rfl | rfl
  all_goals exact ⟨_, rfl, by decide, by decide⟩
theorem fmod_range (i : Int) {m : Int} (h : 1 ≤ m) : 0 ≤ i.fmod m ∧ i.fmod m < m := by
  rw [Int.fmod_eq_emod_of_nonneg i (by omega)]
  exact ⟨Int.emod_nonneg i (by omega), Int.emod_lt_of_pos i (by omega)⟩
end L2.Pg

/-! the law's end with tables of code objects, for functions that call repr -/
namespace L2.Pg
open PySem PySem.Spec PyProof.Rows L2 LamX
open PySem.W (Frag findIn)
theorem law_callGT {P : Program} {w : World} {K : PySem.W.Frag} {mg mb : Str → Option Value} {CX : CXT} {k : Nat} {fa a : Addr} {cs : List (Addr × Addr)} {fd : FuncData} {x : Str} {sp : Sp} {sB : Shared} {vs : List Value} {ns : List Int}
    (KX_g : K.In sB.heap) (hns_g : sB.heap.Ns mainGlobals mg) (hb : sB.heap.Ns builtinsNs mb) (hbb_g : ∀ x : Str, x ≠ "__name__" → mb x = bootBuiltins x) (hlim_g : sB.heap.NoLimit) (hg_g : sB.gens = #[])
    (hT_g : ∀ p ∈ cs, sB.heap.get? p.2 = some { cls := .none, data := .fields #[] }) (nT_g : ∀ p ∈ cs, K.lookup p.2 = none) (C : ∀ p ∈ cs, PySem.W.CodeHd sB.heap p.1 p.2)
    (hbm_g : ∃ (bm : Addr) (ob : Obj), mg "__builtins__" = some (.ref bm) ∧ bm ≠ builtinsNs ∧ sB.heap.get? bm = some ob ∧ ob.cls = .type "module" ∧ ob.dict = some builtinsNs ∧ ob.data = .plain)
    (ha : sB.heap.get? a = some { cls := .type "list", data := .seq vs.toArray }) (hi_g : IntsAre vs ns) (hl_g : ns.length ≤ sizeLine) (hr_g : Room k callerA)
    (F : ∀ base : Heap, K.In base → base.Ns mainGlobals mg → (∀ p ∈ cs, TabB base mg p.1 p.2) → FnOkG P w K mg base CX k fa fd [x] sp) (hbind_g : ∀ (s : Shared) (u : Value), BindsTo s fd ⟨[u], []⟩ [(x, u)])
    (hsp_g : ∀ H : Hp, (∀ p ∈ cs, H p.2 = some (.tbl #[])) → SqL K H a (ns.map V.int) → sp [.ref a] H (fun v _ => v = .bl true) fun _ _ _ => False)
    (hCX_g : ∀ H e s', CX [] H sB (fun _ _ _ => False) e s' → False) :
    codeAny (model P w) callerA (.call (.ref fa) ⟨[.ref a], []⟩) (fun r s' => r = .ok (.ret (.bool true)) ∧ OldK sB.heap s'.heap ∧ s'.os = sB.os ∧ AllBare s'.gens) sB := by
  have rv_g := vals_ints hi_g
  have lenV_g := hi_g.length
  have isT_g : ∀ b : Addr, b ∈ cs.map (·.2) → sB.heap.get? b = some { cls := .none, data := .fields #[] } := fun b hb => by
    obtain ⟨p, hp, e⟩ := List.mem_map.mp hb
    rw [← e]
    exact hT_g p hp
  have aT_g : a ∉ cs.map (·.2) := fun zq => by
    have q := isT_g a zq
    rw [ha] at q
    have zr : Data.seq vs.toArray _ = Data.fields #[] := congrArg Obj.data (Option.some.inj q)
    cases zr
  have memT_g : ∀ p ∈ cs, p.2 ∈ cs.map (·.2) := fun p hp => List.mem_map.mpr ⟨p, hp, rfl⟩
  -- from an abstract heap in which nothing but the script and the tables may be tracked
  have core_g : ∀ H : Hp, (∀ p ∈ cs, H p.2 = some (.tbl #[])) → (∀ b, H b = none ∨ b ∈ cs.map (·.2) ∨ ∃ o xs, H b = some (.frz o (.lst xs))) → SqL K H a (ns.map V.int) → HOk P w H sB.heap → (∀ b, H b ≠ none → b = a ∨ b ∈ cs.map (·.2)) → (H a ≠ none → K.lookup a = none) →
      codeAny (model P w) callerA (.call (.ref fa) ⟨[.ref a], []⟩) (fun r s' => r = .ok (.ret (.bool true)) ∧ OldK sB.heap s'.heap ∧ s'.os = sB.os ∧ AllBare s'.gens) sB := by
    intro H hH_g hO_g hS_g hok_g hA_g hK_g
    have base_of_g : ∀ {b : Addr} {o : Obj}, sB.heap.get? b = some o → H b = none → (hidT sB.heap H).get? b = some o := fun e n => hidT_get e n
    have noD_g : ∀ {b : Addr} {o : Obj}, sB.heap.get? b = some o → (∀ vs n, o.data ≠ .seq vs n) → o.data ≠ .fields #[] → H b = none := fun {b o} e h1 h2 => by
      cases q : H b with
      | none => rfl
      | some u =>
        rcases hA_g b (by rw [q]; simp) with eq1 | eq1
        · rw [eq1, ha] at e
          cases e
          exact (h1 _ _ rfl).elim
        · rw [isT_g b eq1] at e
          cases e
          exact (h2 rfl).elim
    have noA_g : ∀ {b : Addr} {o : Obj} {es : Array DictEntry} {ep : Nat}, sB.heap.get? b = some o → o.data = .dict es ep → H b = none := fun {b o es ep} e d => by
      refine noD_g e (fun vs n zq => ?_) fun zq => ?_
      · rw [d] at zq
        cases zq
      · rw [d] at zq
        cases zq
    have nsK_g : ∀ {b : Addr} {m : Str → Option Value}, sB.heap.Ns b m → (hidT sB.heap H).Ns b m := fun {b m} ⟨o, es, ep, e, d, r⟩ => ⟨o, es, ep, base_of_g e (noA_g e d), d, r⟩
    have hKb_g : K.In (hidT sB.heap H) := fun b o e => base_of_g (KX_g b o e) (by
      cases q : H b with
      | none => rfl
      | some u =>
        rcases hA_g b (by rw [q]; simp) with eq1 | eq1
        · rw [eq1] at e q
          rw [hK_g (by rw [q]; simp)] at e
          cases e
        · obtain ⟨p, hp, ep⟩ := List.mem_map.mp eq1
          rw [← ep, nT_g p hp] at e
          cases e)
    have hM_g : Mod K mg (hidT sB.heap H) := ⟨hKb_g, nsK_g hns_g, ⟨mb, nsK_g hb, hbb_g⟩, let ⟨mc, h1, h2⟩ := hlim_g; ⟨mc, nsK_g h1, h2⟩⟩
    have TB_g : ∀ p ∈ cs, TabB (hidT sB.heap H) mg p.1 p.2 := fun p hp => by
      have hTp_g := hT_g p hp
      refine ⟨?_, ?_, fun zq => ?_⟩
      · obtain ⟨o, us, file, tf, flags, tg, inF, text, tt, e1, r1, r2, r3, r4, r5, r6, r7, r8, hne⟩ := C p hp
        refine ⟨o, us, file, tf, flags, tg, inF, text, tt, base_of_g e1 (noD_g e1 (fun vs n zq => ?_) fun zq => ?_), r1, r2, r3, r4, r5, r6, r7, r8, hne⟩
        · rw [r2] at zq
          cases zq
        · rw [r2] at zq
          cases zq
          simp at r3
      · obtain ⟨bm, ob, b1, b2, b3, b4, b5, b6⟩ := hbm_g
        have nG_g : bm ≠ mainGlobals := fun q => by
          obtain ⟨o, es, ep, e, hd, _⟩ := hns_g
          rw [q, e] at b3
          cases b3
          rw [hd] at b6
          cases b6
        have nP_g : bm ≠ p.2 := fun q => by
          rw [q, hTp_g] at b3
          cases b3
          cases b6
        refine ⟨bm, ob, b1, b2, nG_g, nP_g, base_of_g b3 (noD_g b3 (fun vs n zq => ?_) fun zq => ?_), b4, b5, b6⟩
        · rw [b6] at zq
          cases zq
        · rw [b6] at zq
          cases zq
      · obtain ⟨o, es, ep, e, hd, _⟩ := hns_g
        rw [zq, hTp_g] at e
        cases e
        cases hd
    have e0_g : Env0 P w K mg (hidT sB.heap H) callerA [] sB H := ⟨rfl, hM_g, fun b o e => of_hidT e, Nat.le_of_eq (hidT_size _ _), trivial, fun b hb => absurd (show b ∈ ([] : List Addr) from hb) (by simp), hok_g, .of_eq hg_g⟩
    refine codeAny_mono ((F _ hKb_g (nsK_g hns_g) TB_g).run callerA [] rfl sB H ⟨[.ref a], []⟩ [.ref a] [.ref a] _ _ hr_g e0_g (hbind_g sB (.ref a)) (.cons rfl .nil) (hsp_g H hH_g hS_g)) fun r s' h => ?_
    cases r with
    | error e => exact (hCX_g H e s' h).elim
    | ok fl =>
      cases fl with
      | next => exact False.elim h
      | brk => exact False.elim h
      | cont => exact False.elim h
      | ret u =>
        obtain ⟨v, H', os, bare_g, un_g, hok_g', r', q⟩ := h
        have q' : v = .bl true := q
        subst q'
        obtain rfl : u = Value.bool true := r'
        have key_g : ∀ b o, b ∉ cs.map (·.2) → sB.heap.get? b = some o → s'.heap.get? b = some o := fun b o nb e => by
          cases q : H b with
          | none => exact un_g.keep b o e q (by intro zq; exact absurd (show b ∈ ([] : List Addr) from zq) (by simp)) (by simp)
          | some u =>
            rcases hO_g b with zq | zq | ⟨ob, xs, zq⟩
            · rw [q] at zq; cases zq
            · exact absurd zq nb
            · have z2 := un_g.frzs b ob _ zq
              obtain ⟨e1, _⟩ := hok_g b _ zq
              obtain ⟨e2, _⟩ := hok_g' b _ z2
              rw [e] at e1; cases e1
              exact e2
        have grown_g : ∀ p ∈ cs, ∃ more : Array Value, s'.heap.get? p.2 = some { cls := .none, data := .fields more } := fun p hp => by
          obtain ⟨more, zq⟩ := un_g.tbls p.2 #[] (hH_g p hp)
          exact ⟨_, hok_g' p.2 _ zq⟩
        refine ⟨rfl, ⟨fun b o e => ?_, fun b o e => ?_⟩, os, bare_g⟩
        · by_cases hb : b ∈ cs.map (·.2)
          · obtain ⟨p, hp, ep⟩ := List.mem_map.mp hb
            obtain ⟨more, hm⟩ := grown_g p hp
            rw [← ep] at e ⊢
            rw [hT_g p hp] at e
            cases e
            exact .inr (.inl ⟨((C p hp).tab (hT_g p hp)).isCodeTable, rfl, #[], more, rfl, by rw [Array.empty_append]; exact hm⟩)
          · exact .inl (key_g b o hb e)
        · by_cases hb : b ∈ cs.map (·.2)
          · obtain ⟨p, hp, ep⟩ := List.mem_map.mp hb
            obtain ⟨more, hm⟩ := grown_g p hp
            rw [← ep]
            exact ⟨_, hm⟩
          · exact ⟨o, key_g b o hb e⟩
  cases hk : K.lookup a with
  | some o =>
    have e := KX_g a o hk
    rw [ha] at e
    cases e
    refine core_g (fun b => if b ∈ cs.map (·.2) then some (.tbl #[]) else none) (fun p hp => if_pos (memT_g p hp)) (fun b => ?_) (.inr ⟨_, vs.toArray, _, hk, rfl, rfl, rfl, by rw [List.size_toArray, lenV_g]; exact hl_g, by simpa using rv_g⟩) (fun b u zq => ?_) (fun b zq => ?_) fun zq => absurd (show (if a ∈ cs.map (·.2) then some (HO.tbl #[]) else none) = none from if_neg aT_g) zq
    · by_cases hb : b ∈ cs.map (·.2)
      · exact .inr (.inl hb)
      · exact .inl (if_neg hb)
    · by_cases hb : b ∈ cs.map (·.2)
      · have zr := (if_pos hb).symm.trans zq
        cases zr
        exact isT_g b hb
      · have zr := (if_neg hb).symm.trans zq
        cases zr
    · by_cases hb : b ∈ cs.map (·.2)
      · exact .inr hb
      · exact absurd (if_neg hb) zq
  | none =>
    refine core_g (fun b => if b = a then some (.frz { cls := .type "list", data := .seq vs.toArray } (.lst (ns.map V.int))) else if b ∈ cs.map (·.2) then some (.tbl #[]) else none) (fun p hp => (if_neg (show ¬ p.2 = a from fun zq => aT_g (by rw [← zq]; exact memT_g p hp))).trans (if_pos (memT_g p hp))) (fun b => ?_)
      (.inl (.inr ⟨{ cls := .type "list", data := .seq vs.toArray }, if_pos rfl⟩)) (fun b u zq => ?_) (fun b zq => ?_) fun _ => hk
    · by_cases hb : b = a
      · exact .inr (.inr ⟨_, _, if_pos hb⟩)
      · by_cases hb2 : b ∈ cs.map (·.2)
        · exact .inr (.inl hb2)
        · exact .inl ((if_neg hb).trans (if_neg hb2))
    · by_cases hb : b = a
      · have zr := (if_pos hb).symm.trans zq
        cases zr
        rw [hb]
        exact ⟨ha, by rw [List.length_map]; exact hl_g, vs, _, rv_g, ha⟩
      · have z1 := (if_neg hb).symm.trans zq
        by_cases hb2 : b ∈ cs.map (·.2)
        · have zr := (if_pos hb2).symm.trans z1
          cases zr
          exact isT_g b hb2
        · have zr := (if_neg hb2).symm.trans z1
          cases zr
    · by_cases hb : b = a
      · exact .inl hb
      · by_cases hb2 : b ∈ cs.map (·.2)
        · exact .inr hb2
        · exact absurd ((if_neg hb).trans (if_neg hb2)) zq
theorem walk_ofGT {l : PySem.W.OpenLaw} {n k : Nat} {q : Program} {loose : List Str} {XP : (Str → Option Value) → Heap → Prop} {YP : World → Heap → Prop} {d : DefRec} {x : Str}
    (hn : l.most = some n) (hn2 : n ≤ sizeLine) (hdf : d.params.defaults = []) (hr : Room k callerA)
    (F : ∀ (w : World) (mg : Str → Option Value) (fa : Addr) (h : Heap), YP w h → h.Ns mainGlobals mg → mg d.name = some (.ref fa) →
      ∃ (K : Frag) (fd : FuncData) (cs : List (Addr × Addr)) (sp : Sp), K.In h ∧ ((∀ p ∈ cs, h.get? p.2 = some tabO) ∧ (∀ p ∈ cs, K.lookup p.2 = none) ∧ ∀ p ∈ cs, PySem.W.CodeHd h p.1 p.2) ∧ (∀ (s : Shared) (u : Value), BindsTo s fd ⟨[u], []⟩ [(x, u)]) ∧
        (∀ (H : Hp) (a : Addr) (ns : List Int), ns.length ≤ n → (∀ p ∈ cs, H p.2 = some (.tbl #[])) → SqL K H a (ns.map V.int) → sp [.ref a] H (fun v _ => v = .bl true) fun _ _ _ => False) ∧
        ∀ base : Heap, K.In base → base.Ns mainGlobals mg → (∀ p ∈ cs, TabB base mg p.1 p.2) → FnOkG l.prog w K mg base (L2.CX l.prog w) k fa fd [x] sp) :
    PySem.W.WalkO q loose XP YP l.row.toRowW d [] (fun f vs => PySem.call f vs) := by
  refine Att.attach_callB hn hdf fun w t0 t1 mg mb fa o pm cd doc a vs ns G Y ho hd hcd hmg hobj hints hlen _ hg => ?_
  obtain ⟨K, fd, cs, sp, KX, ⟨hT, nT, hC⟩, hb, hsp, hF⟩ := F w mg fa _ Y G.T.g hmg
  refine law_callGT KX G.T.g G.T.b G.T.builtins G.T.nolimit hg hT nT hC G.T.bmain hobj hints (Nat.le_trans hlen hn2) hr hF hb (fun H hH hS => hsp H a ns hlen hH hS) fun H e s' c => ?_
  obtain ⟨_, _, _, _, _, _, _, _, _, _, _, _, z⟩ := c
  exact z
/-- the tables of the makers of lambdas -/
def tabsK (K : Frag) (lm : List DefP) : List (Addr × Addr) := lm.map fun d => (codeOf K d, tabOf K d)
theorem tabs_of {K : Frag} {h : Heap} {lm : List DefP} (X : K.In h) (L : ∀ d ∈ lm, LamAt K h d) :
    (∀ p ∈ tabsK K lm, h.get? p.2 = some tabO) ∧ (∀ p ∈ tabsK K lm, K.lookup p.2 = none) ∧ ∀ p ∈ tabsK K lm, PySem.W.CodeHd h p.1 p.2 := by
  refine ⟨fun p hp => ?_, fun p hp => ?_, fun p hp => ?_⟩
  all_goals
    obtain ⟨d, hd, rfl⟩ := List.mem_map.mp hp
  · exact (L d hd).tab
  · exact (L d hd).no
  · exact PySem.W.codeHd_of_K X (L d hd).hd
/-- the law's end, over the Hook's says -/
theorem walk_law {l : PySem.W.OpenLaw} {n k m : Nat} {q : Program} {loose : List Str} {XP : (Str → Option Value) → Heap → Prop} {d : DefRec} {cks : List (Frag → Bool)} {fns : List DefP} {tbs : List Tb} {lms : List DefP} {dp : DefP} {x : Str} {sp : Frag → Sp}
    (hn : l.most = some n) (hn2 : n ≤ sizeLine) (hdf : d.params.defaults = []) (hr : Room k callerA) (hname : d.name = "law")
    (F : ∀ (w : World) (mg : Str → Option Value) (K : Frag) (h : Heap), K.In h → h.Ns mainGlobals mg → SaysP cks fns tbs w K → (∀ d ∈ lms, LamAt K h d) →
      mg "law" = some (.ref (dp.pa.at_ K)) ∧ (∀ (s : Shared) (u : Value), BindsTo s (fdAt K (dp.pa.at_ K)) ⟨[u], []⟩ [(x, u)]) ∧
        (∀ (H : Hp) (a : Addr) (ns : List Int), ns.length ≤ n → (∀ p ∈ tabsK K lms, H p.2 = some (.tbl #[])) → SqL K H a (ns.map V.int) → sp K [.ref a] H (fun v _ => v = .bl true) fun _ _ _ => False) ∧
        ∀ base : Heap, (∀ p ∈ tabsK K lms, TabB base mg p.1 p.2) → FnOkG l.prog w K mg base (L2.CX l.prog w) k (dp.pa.at_ K) (fdAt K (dp.pa.at_ K)) [x] (sp K)) :
    PySem.W.WalkO q loose XP (hookP m cks fns tbs lms).says l.row.toRowW d [] (fun f vs => PySem.call f vs) := by
  refine walk_ofGT (x := x) hn hn2 hdf hr fun w mg fa h Y hns hmg => ?_
  obtain ⟨K, KX, c, L⟩ := Y
  rw [hname] at hmg
  obtain ⟨f1, f2, f3, f4⟩ := F w mg K h KX hns c L
  have e : fa = dp.pa.at_ K := by
    have z : some (Value.ref fa) = some (Value.ref (dp.pa.at_ K)) := hmg.symm.trans f1
    injection z with z
    injection z with z
  subst e
  exact ⟨K, _, tabsK K lms, sp K, KX, tabs_of KX L, f2, f3, fun base _ _ TB => f4 base TB⟩
end L2.Pg

/-! lambdas handed to a def of the law; heaps in which tables grow -/
namespace L2.Pg
open PySem PySem.Spec PyProof.Rows L2 LamX
open PySem.W (Frag findIn)
section
variable {X : Cx} {A : Around} {outer : List Env} {s : Shared} {H : Hp} {E : XK} {scope : Scope} {f c : Addr}
theorem tk_lam : Takes (lamCx X A outer s H E scope f c) (fun cls d _ H => E cls d H) := takes_of rfl rfl rfl rfl
end
/-- all but the tables -/
def noTab (H : Hp) : Hp := fun b => match H b with
  | some (.tbl _) => none
  | o => o
theorem noTab_ext {H H' : Hp} (x : ExtN H H') : Ext (noTab H) H' := fun b o e => by
  unfold noTab at e
  cases q : H b with
  | none =>
    rw [q] at e
    cases e
  | some u =>
    rw [q] at e
    cases u with
    | tbl ps => cases e
    | _ =>
      cases e
      exact x b _ q (fun ps z => by cases z)
theorem noTab_at {H : Hp} {b : Addr} {o : HO} (h : H b = some o) (n : ∀ ps, o ≠ .tbl ps) : noTab H b = some o := by
  unfold noTab
  rw [h]
  cases o with
  | tbl ps => exact absurd rfl (n ps)
  | _ => rfl
theorem noTab_in {H : Hp} : Ext (noTab H) H := noTab_ext (ExtN.refl H)
theorem sqT_noTab {K : Frag} {H : Hp} {a : Addr} {xs : List V} (h : SqT K H a xs) : SqT K (noTab H) a xs := by
  rcases h with h | h
  · refine .inl ?_
    rcases h with h | ⟨o, h⟩
    · exact .inl (noTab_at h fun ps z => by cases z)
    · exact .inr ⟨o, noTab_at h fun ps z => by cases z⟩
  · exact .inr h
theorem sqL_noTab {K : Frag} {H : Hp} {a : Addr} {xs : List V} (h : SqL K H a xs) : SqL K (noTab H) a xs := by
  rcases h with h | h
  · refine .inl ?_
    rcases h with h | ⟨o, h⟩
    · exact .inl (noTab_at h fun ps z => by cases z)
    · exact .inr ⟨o, noTab_at h fun ps z => by cases z⟩
  · exact .inr h
mutual
theorem dp_noTab {K : Frag} {H : Hp} : ∀ {v : V} {d : PyData}, Dp K H v d → Dp K (noTab H) v d
  | _, _, .non => .non
  | _, _, .bl b => .bl b
  | _, _, .int i => .int i
  | _, _, .str x => .str x
  | _, _, .lst h a => .lst (sqL_noTab h) (dpAll_noTab a)
  | _, _, .tup h a => .tup (sqT_noTab h) (dpAll_noTab a)
theorem dpAll_noTab {K : Frag} {H : Hp} : ∀ {v : List V} {d : List PyData}, DpAll K H v d → DpAll K (noTab H) v d
  | _, _, .nil => .nil
  | _, _, .cons h t => .cons (dp_noTab h) (dpAll_noTab t)
end
mutual
theorem ex_noTab {K : Frag} {H : Hp} : ∀ (e : Ex) (v : V), ExAt K H e v → ExAt K (noTab H) e v
  | .mk k vals ps z, v, h => by
    unfold ExAt at h ⊢
    obtain ⟨a, dx, tp, va, ka, vs, us, h1, h2, h3, h4, h5, h6, h7⟩ := h
    exact ⟨a, dx, tp, va, ka, vs, us, h1, noTab_at h2 (fun ps z => by cases z), sqT_noTab h3, exAll_noTab ps vs h4, dpAll_noTab h5, dp_noTab h6, h7⟩
theorem exAll_noTab {K : Frag} {H : Hp} : ∀ (es : List Ex) (vs : List V), ExAll K H es vs → ExAll K (noTab H) es vs
  | [], vs, h => by
    unfold ExAll at h ⊢
    exact h
  | e :: r, vs, h => by
    unfold ExAll at h ⊢
    obtain ⟨v, rs, h1, h2, h3⟩ := h
    exact ⟨v, rs, h1, ex_noTab e v h2, exAll_noTab r rs h3⟩
end
theorem ExtN.ex {K : Frag} {H H' : Hp} (x : ExtN H H') {e : Ex} {v : V} (h : ExAt K H e v) : ExAt K H' e v := ExAt.mono (noTab_ext x) e v (ex_noTab e v h)
theorem ExtN.dp {K : Frag} {H H' : Hp} (x : ExtN H H') {v : V} {d : PyData} (h : Dp K H v d) : Dp K H' v d := (noTab_ext x).dp (dp_noTab h)
theorem ExtN.ofE {H H' : Hp} (x : Ext H H') : ExtN H H' := fun b o h _ => x b o h
/-- told whether the lambda raised BadExpression -/
def TRef (C : Addr) : (XK → Hp → VK → Prop) → Hp → VK → Prop := fun tl H Q => ∀ (E : XK) (R : VK), (∀ cls d H', cls = .ref C → Q (.bl true) H' → E cls d H') → (∀ v H', Q (.bl false) H' → R v H') → tl E H R

/-! ### calls of what was handed -/
section
variable {X : Cx} {pins : List (Addr × Obj)} {σ : L2.St} {H HZ : Hp} {s s1 : Shared}
theorem pe_act2 {CXg : CXT} {Eg : XK} {Ng : List Str} {qg : Str} {sg : Scope} {g f c' : Addr} {cdg pm ctv : Value} {params : Arguments} {body : Expr} {scope : Scope} {k i : Nat} {a : Str} {pn : List (Addr × Obj)} {xe : Value → Shared → Prop} {W : WX} {tL : XK → TE} {p1 p2 : Pos}
    (I : Inv X pins σ H s) (L : LamS X.env.scope scope) (hf_n : s.heap.get? f = some (PySem.W.kla_obj "<lambda>" (X.env.qual ++ "<lambda>") params body scope (cloFrom X.env.cells scope.names []) pm c' ctv)) (hfn_n : H f = none) (hfr_n : f ∉ frs X.stack)
    (hbind_n : bindArgs (PySem.W.kla_fn "<lambda>" (X.env.qual ++ "<lambda>") params body scope (cloFrom X.env.cells scope.names []) pm (.ref c') ctv) ⟨[], []⟩ = pure [])
    (tk_n : Takes ((cxOf CXg X.prog X.w X.K X.mg X.base Ng qg sg g cdg X.A X.stack s H Eg).tr pn xe) W) (hr_n : Room (k + 1) (X.A.deeper (envOfC qg sg s.heap.objs.size g cdg)))
    (hbody_n : ∀ (A : Around) (outer : List Env) (s : Shared) (H : Hp) (E : XK), Room k (A.deeper (lamEnv X scope s.heap.objs.size f c')) → PE (lamCx X A outer s H E scope f c') body (tL E))
    (hN_n : Ng[i]? = some a) (hv_n : Vis sg a) (hd_n : (a == ("__debug__" : Str)) = false := by decide) (hcd_n : (a == ("__classdict__" : Str)) = false := by decide) :
    PE ((cxOf CXg X.prog X.w X.K X.mg X.base Ng qg sg g cdg X.A X.stack s H Eg).tr pn xe) (.Call (.Name a p1) [] [] p2)
      (fun σZ HZ Q => σZ[i]? = some (some (.ref f)) ∧ HZ c' = some (CodeO c' (X.env.qual ++ "<lambda>")) ∧ tL (WE W σZ) σ HZ Q) := by
  refine ⟨fun pinsZ sZ_n σZ HZ Q IZ_n h => ?_⟩
  obtain ⟨hs_n, hc_n, ht_n⟩ := h
  refine wpAny_Call_Name_kw (thn ((pe_var (pos := p1) (i := i) hN_n hv_n hd_n hcd_n).run pinsZ sZ_n σZ HZ (fun v H1 => v = .ref f ∧ H1 = HZ) IZ_n ⟨.ref f, hs_n, rfl, rfl⟩) fun u s1 ⟨v, H1, I1_n, r1_n, q1_n⟩ => ?_)
  obtain ⟨ev_n, eH_n⟩ := q1_n
  subst ev_n
  rw [eH_n] at I1_n
  obtain rfl : u = Value.ref f := r1_n
  have of1_n : s1.heap.get? f = some (PySem.W.kla_obj "<lambda>" (X.env.qual ++ "<lambda>") params body scope (cloFrom X.env.cells scope.names []) pm c' ctv) := I1_n.base.keep f _ hf_n hfn_n hfr_n (fun z => nomatch (show f ∈ ([] : List Addr) from z))
  refine PySem.W.callWith_F0 ⟨_, _, _, _, of1_n⟩ ?_
  have un_n : Un (frs X.stack) [] H HZ s.heap s1.heap := I1_n.base
  obtain ⟨⟨oc, vs, t, hoc_n, hdc_n, hvc_n⟩, _, _⟩ := I1_n.hok c' _ hc_n
  have rc_n : codeAny (model X.prog X.w) (X.A.deeper (envOfC qg sg s.heap.objs.size g cdg)) (.call (.ref f) ⟨[], []⟩) (CR (L2.CX X.prog X.w) (envOfC qg sg s.heap.objs.size g cdg :: X.stack) X.prog X.w HZ s1 Q (WE W σZ)) s1 := by
    refine PySem.W.kla_callFunE hr_n.depth of1_n rfl L.co L.gen rfl ⟨c', oc, vs, t, rfl, hoc_n, hdc_n, hvc_n⟩ ?_
    rw [hbind_n]
    refine wpAny_pure (wpAny_newFunctionEnv (fun y hy => (L.own y hy).2) (fun y hy => absurd hy (by simp)) (fun h₁ hns_n hsb_n => ⟨I1_n.nolimit.fresh _ hsb_n, ?_⟩) L.kind)
    show codeAny _ _ (.expr body (lamEnv X scope s1.heap.objs.size f c')) _ _
    have kp_n : ∀ b o, s1.heap.get? b = some o → h₁.get? b = some o := fun b o e => hsb_n.extBut b o (Nat.ne_of_lt (Heap.lt_size e)) (Heap.get?_push_of_some _ e)
    have J_n : Inv (lamCx X (X.A.deeper (envOfC qg sg s.heap.objs.size g cdg)) (envOfC qg sg s.heap.objs.size g cdg :: X.stack) s1 HZ (WE W σZ) scope f c') [] σ HZ { s1 with heap := h₁, toks := s1.toks + ([] : List (Str × Value)).length } :=
      lam_start2 I L I1_n.env0 hr_n.hd un_n hns_n kp_n
    refine PySem.W.kla_codeExpr (wpAny_mono ((hbody_n _ _ s1 HZ (WE W σZ) (hr_n.deeper _)).run [] _ _ HZ Q J_n ht_n) (fun v s' hq_n => ?_) fun e s' hq_n => hq_n)
    obtain ⟨w', H', J', rv, q⟩ := hq_n
    exact ⟨w', H', J'.os, J'.bare, J'.base, J'.hok, rv, q⟩
  have hx_n := passAt tk_n σZ
  refine wpAny_call (codeAny_mono rc_n fun r s' hq_n => ?_)
  cases r with
  | error e => exact hx_n pinsZ HZ s1 e s' I1_n hq_n
  | ok fl =>
    cases fl with
    | ret u => exact I1_n.after hq_n
    | next => exact False.elim hq_n
    | brk => exact False.elim hq_n
    | cont => exact False.elim hq_n
end
def GivesTo2 (X : Cx) (Ng : List Str) (x : Str) (sg : Scope) (g : Addr) (cdg : Value) (bg : List Stmt) (a : Str) (q : Str) (TT : (XK → Hp → VK → Prop) → Hp → VK → Prop) : Prop :=
  ∀ (f c' : Addr) (s : Shared) (H : Hp) (Q : VK) (tl_n : XK → Hp → VK → Prop),
    (∀ (W : WX) (pn : List (Addr × Obj)) (xe : Value → Shared → Prop) (p1 p2 : Pos), Takes ((cxOf C8.CX0 X.prog X.w X.K X.mg X.base Ng x sg g cdg X.A X.stack s H C8.E0).tr pn xe) W →
      PE ((cxOf C8.CX0 X.prog X.w X.K X.mg X.base Ng x sg g cdg X.A X.stack s H C8.E0).tr pn xe) (.Call (.Name a p1) [] [] p2) (fun σZ HZ Q => σZ[0]? = some (some (.ref f)) ∧ HZ c' = some (CodeO c' q) ∧ tl_n (WE W σZ) HZ Q)) →
    H c' = some (CodeO c' q) → TT tl_n H Q →
    ∃ t, PSs (cxOf C8.CX0 X.prog X.w X.K X.mg X.base Ng x sg g cdg X.A X.stack s H C8.E0).nox bg t ∧ t { nx := fun _ H' => Q .non H', rt := Q } (L2.start Ng [.ref f]) H
section
variable {X : Cx}
theorem pe_lamcall2 {T : List (Addr × Str)} {TT : (XK → Hp → VK → Prop) → Hp → VK → Prop} {x a : Str} {g c P : Addr} {k : Nat} {pg : Arguments} {bg : List Stmt} {sg : Scope} {dV kV doc pm cdv ct oc : Value} {an od : Option Addr} {osl : Array (Option Value)} {Ng : List Str}
    {params : Arguments} {body : Expr} {scope : Scope} {t : XK → TE} {p lpos pos : Pos} (hg_n : Gl X x) (hm_n : X.mg x = some (.ref g)) (hk_n : PySem.W.keepIn X.K (.ref g) = true)
    (lk_n : X.K.lookup g = some ⟨oc, od, .func (PySem.W.fnOf x x pg bg sg dV kV doc pm an cdv ct), osl⟩) (hcg_n : PySem.W.codeIn X.K cdv x = true) (hb_n : L2.Binds X.K (PySem.W.fnOf x x pg bg sg dV kV doc pm an cdv ct) [a] []) (Sg_n : FnScope Ng [a] sg) (hNg_n : Ng[0]? = some a) (hva_n : Vis sg a)
    (hG_n : GivesTo2 X Ng x sg g cdv bg a (X.env.qual ++ "<lambda>") TT)
    (TB : TabB X.base X.mg c P) (hcode_n : X.env.code = .ref c) (hmT_n : (P, X.env.qual ++ "<lambda>") ∈ T) (hu_n : ∀ p ∈ T, p.1 = P → p.2 = X.env.qual ++ "<lambda>") (hr_n : Room (k + 2) X.A) (L : LamS X.env.scope scope) (hdef_n : defaultsOf params X.env = ([], []))
    (hbind_n : ∀ (q : Str) (cl : List (Str × Addr)) (pm cv ctv : Value), bindArgs (PySem.W.kla_fn "<lambda>" q params body scope cl pm cv ctv) ⟨[], []⟩ = pure [])
    (hbody_n : ∀ (A : Around) (outer : List Env) (s : Shared) (H : Hp) (E : XK) (f c' : Addr), Room k (A.deeper (lamEnv X scope s.heap.objs.size f c')) → PE (lamCx X A outer s H E scope f c') body (t E))
    (hdb_n : (x == ("__debug__" : Str)) = false := by decide) (hd_n : (a == ("__debug__" : Str)) = false := by decide) (hcd_n : (a == ("__classdict__" : Str)) = false := by decide) :
    PE X (.Call (.Name x p) [.Lambda params body scope lpos] [] pos) (tLam T TT t) := by
  refine ⟨fun pins s σ H Q I h => ?_⟩
  obtain ⟨hT_n, h⟩ := h
  refine wpAny_Call_Name_kw (ld_glob I hg_n hm_n ?_ hdb_n)
  refine PySem.W.callWith_K (h₀ := X.base) I.ok.mod.kin hk_n ?_ (by rfl) (by rfl)
  show wpAny _ _ (spliced ((false, eval (.Lambda params body scope lpos) X.env) :: backTo pos (starEach [] X.env))) _ _ s
  refine Calls.spliced_cons (lam_make2 I TB hcode_n hmT_n hu_n hT_n hdef_n (L.has I.ok) fun f c' pm' ctv H1 s' I1_n eN_n T1_n hf_n hfn_n hfr_n hco_n => ?_)
  refine Calls.spliced_nil ⟨I1_n.kIn, ?_⟩
  have rc_n : codeAny (model X.prog X.w) X.A (.call (.ref g) ⟨[.ref f], []⟩) (CR C8.CX0 X.stack X.prog X.w H1 s' Q C8.E0) s' := by
    refine run_ofS (N := Ng) (ps := [a]) (us := [.ref f]) (vs := [.ref f]) lk_n hcg_n Sg_n hr_n I1_n.env0 (hb_n s' [.ref f] I1_n.kIn rfl) (.cons rfl .nil) rfl fun hr' => ?_
    obtain ⟨t', ht', hq'⟩ := hG_n f c' s' H1 Q (fun E H' Q' => t E σ H' Q') (fun W pn xe p1 p2 tk_n => pe_act2 (tL := t) (i := 0) I1_n L hf_n hfn_n hfr_n (hbind_n _ _ _ _ _) tk_n hr' (fun A outer s H E hr2 => hbody_n A outer s H E f c' hr2) hNg_n hva_n hd_n hcd_n) hco_n (h H1 eN_n T1_n)
    exact ⟨t', ht'.nox, hq'⟩
  refine wpAny_call (codeAny_mono rc_n fun r s2 hq_n => ?_)
  cases r with
  | error e => exact (show False from hq_n).elim
  | ok fl =>
    cases fl with
    | ret u => exact I1_n.after hq_n
    | next => exact False.elim hq_n
    | brk => exact False.elim hq_n
    | cont => exact False.elim hq_n
end
section
variable {X : Cx} {T : List (Addr × Str)} {TT : (XK → Hp → VK → Prop) → Hp → VK → Prop} {d : DefP} {a : Str} {c P0 : Addr} {k : Nat} {Ng : List Str} {params : Arguments} {body : Expr} {scope : Scope} {t : XK → TE} {p lpos pos : Pos}
/-- f(lambda: body), f a def of one parameter that calls it -/
theorem pe_lamD (D : DefOk X.K d) (hc : d.cls = none) (h0 : d.dfl = []) (hq : d.qual = d.name) (hg : Gl X d.name) (hm : X.mg d.name = some (.ref (d.pa.at_ X.K)))
    (hb : ∀ (kV doc pm : Value) (an : Option Addr) (cdv ct : Value) (us : List Value), us.length = ([a] : List Str).length → bindArgs (PySem.W.fnOf d.name d.qual d.params d.body d.scope .none kV doc pm an cdv ct) ⟨us, []⟩ = pure (([a] : List Str).zip us))
    (Sg : FnScope Ng [a] d.scope) (hNg : Ng[0]? = some a) (hva : Vis d.scope a) (hG : ∀ cdg : Value, GivesTo2 X Ng d.name d.scope (d.pa.at_ X.K) cdg d.body a (X.env.qual ++ "<lambda>") TT)
    (TB : TabB X.base X.mg c P0) (hcode : X.env.code = .ref c) (hmT : (P0, X.env.qual ++ "<lambda>") ∈ T) (hu : ∀ p ∈ T, p.1 = P0 → p.2 = X.env.qual ++ "<lambda>") (hr : Room (k + 2) X.A) (L : LamS X.env.scope scope) (hdef : defaultsOf params X.env = ([], []))
    (hbind : ∀ (q : Str) (cl : List (Str × Addr)) (pm cv ctv : Value), bindArgs (PySem.W.kla_fn "<lambda>" q params body scope cl pm cv ctv) ⟨[], []⟩ = pure [])
    (hbody : ∀ (A : Around) (outer : List Env) (s : Shared) (H : Hp) (E : XK) (f c' : Addr), Room k (A.deeper (lamEnv X scope s.heap.objs.size f c')) → PE (lamCx X A outer s H E scope f c') body (t E))
    (hdb : (d.name == ("__debug__" : Str)) = false := by decide) (hd : (a == ("__debug__" : Str)) = false := by decide) (hcd : (a == ("__classdict__" : Str)) = false := by decide) :
    PE X (.Call (.Name d.name p) [.Lambda params body scope lpos] [] pos) (tLam T TT t) := by
  have D2 := D.funD hc
  have e : d.dvs X.K = [] := by
    unfold DefP.dvs
    rw [h0] <;> rfl
  rw [e] at D2
  obtain ⟨oc, od, dV, kV, doc, pm, an, cdv, ct, osl, efd, lk, cd, df, kw⟩ := D2.ex
  have b := D2.bindsN hb
  rw [efd] at lk b
  rw [hq] at lk b cd
  exact pe_lamcall2 hg hm D.keep lk cd b Sg hNg hva (hG cdv) TB hcode hmT hu hr L hdef hbind hbody hdb hd hcd
end
section
variable {P : Program} {w : World} {K : Frag} {mg : Str → Option Value} {base : Heap} {k : Nat} {ps N : List Str} {sp : Sp} {d : DefP}
theorem fn_mkGT (D : DefOk K d) (hc : d.cls = none) (S : FnScope N ps d.scope) (len : ∀ vs H Q E, sp vs H Q E → vs.length = ps.length)
    (hbody : ∀ (cdv : Value), (fdAt K (d.pa.at_ K)).code = cdv → ∀ (A : Around) (outer : List Env), A.guards = some [] → ∀ (s : Shared) (H : Hp) (vs : List V) (Q : VK) (E : XK), Room k (A.deeper (envOfC d.qual d.scope s.heap.objs.size (d.pa.at_ K) cdv)) → sp vs H Q E →
      ∃ t, PSs (cxOf (L2.CX P w) P w K mg base N d.qual d.scope (d.pa.at_ K) cdv A outer s H E) d.body t ∧ t { nx := fun _ H' => Q .non H', rt := Q } (L2.start N vs) H) :
    FnOkG P w K mg base (L2.CX P w) (k + 1) (d.pa.at_ K) (fdAt K (d.pa.at_ K)) ps sp := by
  obtain ⟨oc, od, dV, kV, doc, pm, an, cdv, ct, osl, efd, lk, hcd, _, _⟩ := (D.funD hc).ex
  have ec : (fdAt K (d.pa.at_ K)).code = cdv := by
    rw [efd] <;> rfl
  rw [efd] at lk ⊢
  exact fn_ofG lk hcd S len fun A outer hg s H vs Q E hr hsp => hbody cdv ec A outer hg s H vs Q E hr hsp
end
/-- the tables' names -/
def tabsQ (K : Frag) (lm : List DefP) : List (Addr × Str) := lm.map fun d => (tabOf K d, d.qual ++ ".<locals>." ++ "<lambda>")
/-- an expression made: what the maker may do -/
def madeQ (K : Frag) (oe : Option Ex) (Q : VK) (E : XK) (H : Hp) : Prop := match oe with
  | some e => ∀ a H', H a = none → Ext H H' → ExAt K H' e (.ref a) → Q (.ref a) H'
  | none => badE K E H
theorem made_at {K : Frag} {H : Hp} {x dx C : Addr} {oe : Option Ex} {Q : VK} {E : XK} (hx : H x = none) (hd : H dx = none) (n : dx ≠ x) (h : madeQ K oe Q E H) : doneA K x oe (fun v H2 => v = .non ∧ Q (.ref x) H2) E (upd (upd H dx (.own x)) x (.ins C dx [])) := by
  have e0 : ∀ H', ExtX x (upd (upd H dx (.own x)) x (.ins C dx [])) H' → Ext H H' := fun H' y b o e => by
    have n1 : b ≠ x := ne_of_none e hx
    have n2 : b ≠ dx := ne_of_none e hd
    refine y b o n1 ?_
    rw [upd_ne n1, upd_ne n2]
    exact e
  cases oe with
  | some e => exact fun H' y he => ⟨rfl, h x H' hx (e0 H' y) he⟩
  | none => exact fun d H' y r => h d H' (e0 H' y) r
theorem made_side {H : Hp} {x dx C : Addr} (hx : H x = none) (hd : H dx = none) (n : dx ≠ x) : Ext H (L2.del (upd (upd H dx (.own x)) x (.ins C dx [])) x) := fun b o e => by
  have n1 : b ≠ x := ne_of_none e hx
  have n2 : b ≠ dx := ne_of_none e hd
  rw [del_ne n1, upd_ne n1, upd_ne n2]
  exact e
theorem made_ext {H : Hp} {x dx C : Addr} (hx : H x = none) (hd : H dx = none) (n : dx ≠ x) : Ext H (upd (upd H dx (.own x)) x (.ins C dx [])) := fun b o e => by
  have n1 : b ≠ x := ne_of_none e hx
  have n2 : b ≠ dx := ne_of_none e hd
  rw [upd_ne n1, upd_ne n2]
  exact e
/-- a new instance of the class C, its __init__ called with f's values -/
def MkF (C : Addr) (sp : Sp) (f : Addr → List V) (E : XK) (H : Hp) (Q : VK) : Prop := ∀ x dx, H x = none → H dx = none → dx ≠ x → sp (f x) (upd (upd H dx (.own x)) x (.ins C dx [])) (fun v H2 => v = .non ∧ Q (.ref x) H2) E
/-- Repeat(..) -/
theorem rep_at {K : Frag} {H : Hp} {f : Addr → List V} {Q : VK} {E : XK} (v lo hi : V) (oe : Option Ex) (hf : ∀ x, f x = [.ref x, v, lo, hi]) (h1 : ∀ H', Ext H H' → IntIs K H' lo) (h2 : ∀ H', Ext H H' → IntIs K H' hi) (h3 : ∀ H', Ext H H' → ExIs K H' v oe) (h : madeQ K (repO oe lo hi) Q E H) :
    MkF (He.ga K "Repeat") (sp_Repeat___init__ K) f E H Q := fun x dx hx hd n =>
  ⟨x, dx, v, lo, hi, oe, hf x, upd_same, fun H' y => h1 H' ((made_ext hx hd n).tr y), fun H' y => h2 H' ((made_ext hx hd n).tr y), fun H' y => h3 H' ((made_side hx hd n).tr y), made_at hx hd n h⟩
theorem lit_at {K : Frag} {H : Hp} {f : Addr → List V} {Q : VK} {E : XK} (v : V) (hf : ∀ x, f x = [.ref x, v]) (h1 : ∀ H', Ext H H' → StrIs K H' v) (h : madeQ K (litO v) Q E H) :
    MkF (He.ga K "Literal") (sp_Literal___init__ K) f E H Q := fun x dx hx hd n =>
  ⟨x, dx, v, hf x, upd_same, h1 _ (made_ext hx hd n), made_at hx hd n h⟩
theorem any_at {K : Frag} {H : Hp} {f : Addr → List V} {Q : VK} {E : XK} (hf : ∀ x, f x = [.ref x]) (h : madeQ K (some (.mk .any [] [] ".")) Q E H) :
    MkF (He.ga K "AnyChar") (sp_AnyChar___init__ K) f E H Q := fun x dx hx hd n =>
  ⟨x, dx, hf x, upd_same, made_at hx hd n h⟩
theorem vals_turn {vs : List V} {us : List Value} (r : Vals vs us) : Vals (vs.drop 1 ++ vs.take 1) (us.drop 1 ++ us.take 1) := by
  cases r with
  | nil => exact .nil
  | cons h t => exact Vals.append t (.cons h .nil)
section
variable {σ : St} {H : Hp} {Q : VK} {tl tk : TA} {C : Addr} {sp : Sp} {dvs : List V} {E : XK}
theorem go_make (h : tl σ H fun vs H1 => MkF C sp (fun x => .ref x :: (vs ++ dvs)) E H1 Q) : tMake C sp dvs E tl σ H Q := h
theorem go_makeK {n m : Nat} {gV : List V → List V → List V} (h : tl σ H fun vs H1 => tk σ H1 fun zs H2 => vs.length = n ∧ zs.length = m ∧ MkF C sp (fun x => gV (.ref x :: vs) zs) E H2 Q) : tMakeK C n m sp gV E tl tk σ H Q := h
end
theorem iteX1 {A B : Prop} (h : B) : if (if true = true then !true else true) = true then A else B := h
theorem iteX0 {A B : Prop} (h : A) : if (if true = true then !false else false) = true then A else B := h
theorem iteY1 {A B : Prop} (h : A) : if (if false = true then !true else true) = true then A else B := h
theorem iteY0 {A B : Prop} (h : B) : if (if false = true then !false else false) = true then A else B := h
/-- all but what is at a, and the tables -/
def ExtNX (a : Addr) (H H' : Hp) : Prop := ∀ b o, b ≠ a → H b = some o → (∀ ps, o ≠ .tbl ps) → H' b = some o
theorem ExtX.nx {a : Addr} {H H' : Hp} (x : ExtX a H H') : ExtNX a H H' := fun b o n e _ => x b o n e
theorem ExtNX.of {a : Addr} {H H' : Hp} (x : ExtN H H') : ExtNX a H H' := fun b o _ e t => x b o e t
theorem ExtNX.tr {a : Addr} {H H1 H2 : Hp} (x : ExtNX a H H1) (y : ExtNX a H1 H2) : ExtNX a H H2 := fun b o n e t => y b o n (x b o n e t) t
/-- a list of one's own changes: the tables stay what they are -/
theorem tabs_x {T : List (Addr × Str)} {H H' : Hp} {p : Addr} {xs : List V} (hp : H p = some (.lst xs)) (x : ExtX p H H') (t : Tabs T H) : Tabs T H' := fun q hq => by
  obtain ⟨ps, h1, h2, h3⟩ := t q hq
  refine ⟨ps, x _ _ (fun z => ?_) h1, h2, fun pos cv hc => ?_⟩
  · rw [z, hp] at h1
    cases h1
  · obtain ⟨c, e, hc2⟩ := h3 pos cv hc
    refine ⟨c, e, x _ _ (fun z => ?_) hc2⟩
    rw [z, hp] at hc2
    cases hc2
/-- [e for x in a list], e may make new things -/
theorem go_lcE {K : Frag} {te tl : TE} {σ : St} {H : Hp} {Q : VK} {i : Nat} (a : Addr) (xs : List V) (Py : Nat → V → Hp → Prop) (hs : ∀ R : VK, R (.ref a) H → tl σ H R) (hS : SqL K H a xs) (hz : xs.length ≤ 10000) (mono : ∀ j y H1 H2, Ext H1 H2 → Py j y H1 → Py j y H2)
    (hte : ∀ (j : Nat) (x : V) (H1 : Hp), xs[j]? = some x → Ext H H1 → ∀ R : VK, (∀ y H2, Ext H1 H2 → (∀ D, H1 D ≠ none → Py j y (L2.del H2 D)) → R y H2) → te ((wipe σ [i]).set i (some x)) H1 R)
    (hw : ∀ x, wipe ((wipe σ [i]).set i (some x)) [i] = wipe σ [i]) (hd : ∀ D H' ys, H D = none → Ext H H' → H' D = some (.lst ys) → ys.length = xs.length → (∀ (j : Nat) (y : V), ys[j]? = some y → Py j y (L2.del H' D)) → Q (.ref D) H') : tLc (iList K tl) (gName i) tYes te [i] σ H Q := by
  refine hs _ ⟨a, rfl, ⟨xs, hS⟩, fun D hD => ?_⟩
  refine lc_list (K := K) (a := a) (xs := xs) (fun n H' => ∃ ys : List V, ys.length = n ∧ H' D = some (.lst ys) ∧ Ext H (L2.del H' D) ∧ ∀ (j : Nat) (y : V), ys[j]? = some y → Py j y (L2.del H' D)) ?_ ?_ ?_ ?_
  · exact ⟨[], rfl, upd_same, (Ext.new hD).side hD, fun j y z => by cases z⟩
  · rintro n H' _ ⟨ys, _, _, x, _⟩
    exact (Ext.tr x (ExtX.rf.del)).seqL hS
  · rintro n x H' hx ⟨ys, hl, hD', x1, hy⟩
    have hlt : n < xs.length := by
      rcases Nat.lt_or_ge n xs.length with h | h
      · exact h
      · rw [List.getElem?_eq_none h] at hx
        cases hx
    refine ⟨hw x, ?_⟩
    show tYes _ _ _
    unfold tYes
    dsimp only
    rw [if_pos rfl]
    refine hte n x _ hx (Ext.tr x1 (ExtX.rf.del)) _ fun y H2 x2 hP => ?_
    refine ⟨ys, x2 _ _ hD', ?_, ys ++ [y], by rw [List.length_append, hl]; rfl, upd_same, ?_, fun j z hz2 => ?_⟩
    · rw [sizeLine_eq]
      omega
    · exact (Ext.tr x1 fun b o e => by
        have n1 : b ≠ D := fun z => by
          rw [z, del_same] at e
          cases e
        rw [del_ne n1] at e ⊢
        rw [upd_ne n1]
        exact x2 b o e)
    · have e1 : Ext (L2.del H2 D) (L2.del (upd H2 D (.lst (ys ++ [y]))) D) := fun b o e => by
        have n1 : b ≠ D := fun z => by
          rw [z, del_same] at e
          cases e
        rw [del_ne n1] at e ⊢
        rw [upd_ne n1]
        exact e
      have e2 : Ext (L2.del H' D) (L2.del H2 D) := fun b o e => by
        have n1 : b ≠ D := fun z => by
          rw [z, del_same] at e
          cases e
        rw [del_ne n1] at e ⊢
        exact x2 b o e
      rcases Nat.lt_or_ge j ys.length with hj | hj
      · rw [List.getElem?_append_left hj] at hz2
        exact mono _ _ _ _ (e2.tr e1) (hy j z hz2)
      · rw [List.getElem?_append_right hj] at hz2
        have hj0 : j = ys.length := by
          rcases Nat.lt_or_ge (j - ys.length) 1 with h | h
          · omega
          · rw [List.getElem?_eq_none (by simpa using h)] at hz2
            cases hz2
        subst hj0
        rw [Nat.sub_self] at hz2
        cases hz2
        rw [hl]
        exact mono _ _ _ _ e1 (hP D (by rw [hD']; simp))
  · rintro H' ⟨ys, hl, hD', x1, hy⟩
    exact hd D H' ys hD (Ext.tr x1 (ExtX.rf.del)) hD' hl hy
theorem go_irng {ta : TA} {σ : St} {H : Hp} {R : It → Hp → Prop} (h : ta σ H fun vs H1 => ∃ j : Int, vs = [.int j] ∧ -(2 ^ 62) ≤ j ∧ j < 2 ^ 62 ∧ R (Itr 0 j.toNat) H1) : iRng1 ta σ H R := h
theorem nil_tab {K : Frag} {lm : List DefP} {H : Hp} (h : ∀ p ∈ tabsK K lm, H p.2 = some (.tbl #[])) : Tabs (tabsQ K lm) H := fun q hq => by
  obtain ⟨d, hd, rfl⟩ := List.mem_map.mp hq
  exact .nil (h (codeOf K d, tabOf K d) (List.mem_map.mpr ⟨d, hd, rfl⟩))
theorem int_is {K : Frag} {H : Hp} (i : Int) : IntIs K H (.int i) := .inl ⟨i, rfl⟩
theorem non_is {K : Frag} {H : Hp} : IntIs K H .non := .inr (.inr ⟨⟨_, .base .non, kit_ty (by decide +kernel)⟩, fun i z => by cases z⟩)
theorem Ext.thruX {G H H' : Hp} {p : Addr} (x : Ext G H) (h : G p = none) (y : ExtX p H H') : Ext G H' := fun b o e => y b o (ne_of_none e h) (x b o e)
theorem noTab_not {H : Hp} {b : Addr} {o : HO} (e : noTab H b = some o) : ∀ ps, o ≠ .tbl ps := fun ps z => by
  subst z
  unfold noTab at e
  cases q : H b with
  | none =>
    rw [q] at e
    cases e
  | some u =>
    rw [q] at e
    cases u <;> cases e
theorem Ext.thruN {G H H' : Hp} (x : Ext (noTab G) H) (y : ExtN H H') : Ext (noTab G) H' := fun b o e => y b o (x b o e) (noTab_not e)
theorem Ext.noTabT {G H : Hp} (x : Ext (noTab G) H) : Ext (noTab G) (noTab H) := fun b o e => noTab_at (x b o e) (noTab_not e)
theorem DefOk.bindsTo {K : Frag} {d : DefP} {ps : List Str} (D : DefOk K d) (h0 : d.dfl = []) (hb : ∀ (cl : List (Str × Addr)) (kV doc pm : Value) (an : Option Addr) (cdv ct : Value) (us : List Value), us.length = ps.length →
    bindArgs (PySem.W.fnX d.name d.qual d.params d.body d.scope cl .none kV doc pm an cdv ct) ⟨us, []⟩ = pure (ps.zip us)) (s : Shared) (us : List Value) (hl : us.length = ps.length) : BindsTo s (fdAt K (d.pa.at_ K)) ⟨us, []⟩ (ps.zip us) := by
  obtain ⟨cl, kV, doc, pm, an, cdv, ct, e, _⟩ := D.at0 h0
  rw [e]
  exact .of_eq (hb cl kV doc pm an cdv ct us hl)
end L2.Pg

namespace L2.Pg
open PySem PySem.Spec PyProof.Rows L2
open PySem.W (Frag findIn nsIn)
abbrev LW := PySem.Challenge.rw_pegwright_k04_repetitions_checked
def top (i : Nat) : Stmt := PySem.Challenge.pw_pegwright_k04_repetitions_checked.main.body.getD i (.Pass ⟨0, 0, 0, 0⟩)
abbrev s_is_integer : Stmt := top 13
theorem sc_is_integer : FnScope ["value", "low", "high"] ["value", "low", "high"] (defScope s_is_integer) := ⟨rfl, rfl, rfl, by decide +kernel, rfl, by decide +kernel, by decide +kernel⟩
def dp_is_integer : DefP := ⟨.g "is_integer", "is_integer", "is_integer", defArgs s_is_integer, defBody s_is_integer, defScope s_is_integer, [], [], none⟩
abbrev s_is_string : Stmt := top 14
theorem sc_is_string : FnScope ["value", "low", "high"] ["value", "low", "high"] (defScope s_is_string) := ⟨rfl, rfl, rfl, by decide +kernel, rfl, by decide +kernel, by decide +kernel⟩
def dp_is_string : DefP := ⟨.g "is_string", "is_string", "is_string", defArgs s_is_string, defBody s_is_string, defScope s_is_string, [], [], none⟩
abbrev s_quoted : Stmt := top 40
theorem sc_quoted : FnScope ["text", "found", "sign"] ["text"] (defScope s_quoted) := ⟨rfl, rfl, rfl, by decide +kernel, rfl, by decide +kernel, by decide +kernel⟩
def dp_quoted : DefP := ⟨.g "quoted", "quoted", "quoted", defArgs s_quoted, defBody s_quoted, defScope s_quoted, [], [], none⟩
abbrev s_BadExpression___init__ : Stmt := inClass (top 3) 0
theorem sc_BadExpression___init__ : FnScope ["self", "reason"] ["self", "reason"] (defScope s_BadExpression___init__) := ⟨rfl, rfl, rfl, by decide +kernel, rfl, by decide +kernel, by decide +kernel⟩
def dp_BadExpression___init__ : DefP := ⟨.me "BadExpression" "__init__", "__init__", "BadExpression.__init__", defArgs s_BadExpression___init__, defBody s_BadExpression___init__, defScope s_BadExpression___init__, [], [], none⟩
abbrev s_need_expressions : Stmt := top 53
theorem sc_need_expressions : FnScope ["some", "value"] ["some"] (defScope s_need_expressions) := ⟨rfl, rfl, rfl, by decide +kernel, rfl, by decide +kernel, by decide +kernel⟩
def dp_need_expressions : DefP := ⟨.g "need_expressions", "need_expressions", "need_expressions", defArgs s_need_expressions, defBody s_need_expressions, defScope s_need_expressions, [], [], none⟩
abbrev s_grouped : Stmt := top 52
theorem sc_grouped : FnScope ["part", "kinds"] ["part", "kinds"] (defScope s_grouped) := ⟨rfl, rfl, rfl, by decide +kernel, rfl, by decide +kernel, by decide +kernel⟩
def dp_grouped : DefP := ⟨.g "grouped", "grouped", "grouped", defArgs s_grouped, defBody s_grouped, defScope s_grouped, [], [], none⟩
abbrev s_count_text : Stmt := top 44
theorem sc_count_text : FnScope ["low", "high"] ["low", "high"] (defScope s_count_text) := ⟨rfl, rfl, rfl, by decide +kernel, rfl, by decide +kernel, by decide +kernel⟩
def dp_count_text : DefP := ⟨.g "count_text", "count_text", "count_text", defArgs s_count_text, defBody s_count_text, defScope s_count_text, [], [], none⟩
abbrev s_Expression___init__ : Stmt := inClass (top 50) 1
theorem sc_Expression___init__ : FnScope ["self", "own_parts", "own_values", "own_text", "part"] ["self", "own_parts", "own_values", "own_text"] (defScope s_Expression___init__) := ⟨rfl, rfl, rfl, by decide +kernel, rfl, by decide +kernel, by decide +kernel⟩
def dp_Expression___init__ : DefP := ⟨.me "Expression" "__init__", "__init__", "Expression.__init__", defArgs s_Expression___init__, defBody s_Expression___init__, defScope s_Expression___init__, [], [], none⟩
abbrev s_Expression___eq__ : Stmt := inClass (top 50) 7
theorem sc_Expression___eq__ : FnScope ["self", "other"] ["self", "other"] (defScope s_Expression___eq__) := ⟨rfl, rfl, rfl, by decide +kernel, rfl, by decide +kernel, by decide +kernel⟩
def dp_Expression___eq__ : DefP := ⟨.me "Expression" "__eq__", "__eq__", "Expression.__eq__", defArgs s_Expression___eq__, defBody s_Expression___eq__, defScope s_Expression___eq__, [], [], none⟩
abbrev s_Literal___init__ : Stmt := inClass (top 55) 1
theorem sc_Literal___init__ : MScope ["self", "text"] ["self", "text"] (defScope s_Literal___init__) := ⟨rfl, rfl, rfl, by decide +kernel, rfl, by decide +kernel, by decide +kernel⟩
def dp_Literal___init__ : DefP := ⟨.me "Literal" "__init__", "__init__", "Literal.__init__", defArgs s_Literal___init__, defBody s_Literal___init__, defScope s_Literal___init__, [], [], some "Literal"⟩
abbrev s_AnyChar___init__ : Stmt := inClass (top 57) 1
theorem sc_AnyChar___init__ : MScope ["self"] ["self"] (defScope s_AnyChar___init__) := ⟨rfl, rfl, rfl, by decide +kernel, rfl, by decide +kernel, by decide +kernel⟩
def dp_AnyChar___init__ : DefP := ⟨.me "AnyChar" "__init__", "__init__", "AnyChar.__init__", defArgs s_AnyChar___init__, defBody s_AnyChar___init__, defScope s_AnyChar___init__, [], [], some "AnyChar"⟩
abbrev s_Repeat___init__ : Stmt := inClass (top 61) 1
theorem sc_Repeat___init__ : MScope ["self", "item", "low", "high"] ["self", "item", "low", "high"] (defScope s_Repeat___init__) := ⟨rfl, rfl, rfl, by decide +kernel, rfl, by decide +kernel, by decide +kernel⟩
def dp_Repeat___init__ : DefP := ⟨.me "Repeat" "__init__", "__init__", "Repeat.__init__", defArgs s_Repeat___init__, defBody s_Repeat___init__, defScope s_Repeat___init__, [], [("low", .int 0), ("high", .non)], some "Repeat"⟩
abbrev s__law_source : Stmt := top 69
theorem sc__law_source : FnScope ["_law_script", "_law_k", "_law_cell"] ["_law_script", "_law_k"] (defScope s__law_source) := ⟨rfl, rfl, rfl, by decide +kernel, rfl, by decide +kernel, by decide +kernel⟩
def dp__law_source : DefP := ⟨.g "_law_source", "_law_source", "_law_source", defArgs s__law_source, defBody s__law_source, defScope s__law_source, [], [], none⟩
abbrev s__law_next : Stmt := top 70
theorem sc__law_next : FnScope ["_law_source_here", "_law_many", "_law_primes", "_law_prime", "_law_found"] ["_law_source_here", "_law_many"] (defScope s__law_next) := ⟨rfl, rfl, rfl, by decide +kernel, rfl, by decide +kernel, by decide +kernel⟩
def dp__law_next : DefP := ⟨.g "_law_next", "_law_next", "_law_next", defArgs s__law_next, defBody s__law_next, defScope s__law_next, [], [], none⟩
abbrev s__law_pick : Stmt := top 71
theorem sc__law_pick : FnScope ["_law_source_here", "_law_items"] ["_law_source_here", "_law_items"] (defScope s__law_pick) := ⟨rfl, rfl, rfl, by decide +kernel, rfl, by decide +kernel, by decide +kernel⟩
def dp__law_pick : DefP := ⟨.g "_law_pick", "_law_pick", "_law_pick", defArgs s__law_pick, defBody s__law_pick, defScope s__law_pick, [], [], none⟩
abbrev s__law_refused_so : Stmt := top 72
theorem sc__law_refused_so : FnScope ["_law_call_so", "_law_caught", "error"] ["_law_call_so"] (defScope s__law_refused_so) := ⟨rfl, rfl, rfl, by decide +kernel, rfl, by decide +kernel, by decide +kernel⟩
def dp__law_refused_so : DefP := ⟨.g "_law_refused_so", "_law_refused_so", "_law_refused_so", defArgs s__law_refused_so, defBody s__law_refused_so, defScope s__law_refused_so, [], [], none⟩
abbrev s__law_count : Stmt := top 73
theorem sc__law_count : FnScope ["_law_source_here", "_law_some"] ["_law_source_here"] (defScope s__law_count) := ⟨rfl, rfl, rfl, by decide +kernel, rfl, by decide +kernel, by decide +kernel⟩
def dp__law_count : DefP := ⟨.g "_law_count", "_law_count", "_law_count", defArgs s__law_count, defBody s__law_count, defScope s__law_count, [], [], none⟩
abbrev s__law_is_count : Stmt := top 74
theorem sc__law_is_count : FnScope ["_law_number", "_law_least"] ["_law_number", "_law_least"] (defScope s__law_is_count) := ⟨rfl, rfl, rfl, by decide +kernel, rfl, by decide +kernel, by decide +kernel⟩
def dp__law_is_count : DefP := ⟨.g "_law_is_count", "_law_is_count", "_law_is_count", defArgs s__law_is_count, defBody s__law_is_count, defScope s__law_is_count, [], [], none⟩
abbrev s__law_right : Stmt := top 75
theorem sc__law_right : FnScope ["_law_least", "_law_most", "_law_inner", "_law_is_good", "_law_one"] ["_law_least", "_law_most"] (defScope s__law_right) := ⟨rfl, rfl, rfl, by decide +kernel, rfl, by decide +kernel, by decide +kernel⟩
def dp__law_right : DefP := ⟨.g "_law_right", "_law_right", "_law_right", defArgs s__law_right, defBody s__law_right, defScope s__law_right, [], [], none⟩
abbrev s_law : Stmt := top 76
theorem sc_law : FnScope ["_law_script", "_law_inner", "_law_some", "_law_k", "_law_source_here", "_law_turn", "_law_least", "_law_most", "_law_one"] ["_law_script"] (defScope s_law) := ⟨rfl, rfl, rfl, by decide +kernel, rfl, by decide +kernel, by decide +kernel⟩
def dp_law : DefP := ⟨.g "law", "law", "law", defArgs s_law, defBody s_law, defScope s_law, [], [], none⟩
structure Tab (P : Program) (K : Frag) (w : World) (mg : Str → Option Value) : Prop where
  pm : PMain P
  opq : PySem.W.nsIn K cStatics "thirdparty.any" = some none
  exm_BadExpression__BadExpression : PySem.W.exmOne K (.ref (He.ga K "BadExpression")) (.ref (He.ga K "BadExpression")) = some true
  exs : ExEnv K
  f_all : mg "all" = none
  f_bool : mg "bool" = none
  f_int : mg "int" = none
  f_isinstance : mg "isinstance" = none
  f_len : mg "len" = none
  f_max : mg "max" = none
  f_min : mg "min" = none
  f_range : mg "range" = none
  f_repr : mg "repr" = none
  f_str : mg "str" = none
  f_sum : mg "sum" = none
  f_super : mg "super" = none
  f_tuple : mg "tuple" = none
  g_AnyChar : mg "AnyChar" = some (.ref (He.ga K "AnyChar"))
  g_BadExpression : mg "BadExpression" = some (.ref (He.ga K "BadExpression"))
  g_Expression : mg "Expression" = some (.ref (He.ga K "Expression"))
  g_Invalid : mg "Invalid" = some (.ref (He.ga K "Invalid"))
  g_Literal : mg "Literal" = some (.ref (He.ga K "Literal"))
  g_PREFIXED : mg "PREFIXED" = some (.ref (He.ga K "PREFIXED"))
  g_Repeat : mg "Repeat" = some (.ref (He.ga K "Repeat"))
  g_SPECIAL : mg "SPECIAL" = some (.ref (He.ga K "SPECIAL"))
  g__law_count : mg "_law_count" = some (.ref (He.ga K "_law_count"))
  g__law_is_count : mg "_law_is_count" = some (.ref (He.ga K "_law_is_count"))
  g__law_next : mg "_law_next" = some (.ref (He.ga K "_law_next"))
  g__law_pick : mg "_law_pick" = some (.ref (He.ga K "_law_pick"))
  g__law_refused_so : mg "_law_refused_so" = some (.ref (He.ga K "_law_refused_so"))
  g__law_right : mg "_law_right" = some (.ref (He.ga K "_law_right"))
  g__law_source : mg "_law_source" = some (.ref (He.ga K "_law_source"))
  g_count_text : mg "count_text" = some (.ref (He.ga K "count_text"))
  g_grouped : mg "grouped" = some (.ref (He.ga K "grouped"))
  g_is_integer : mg "is_integer" = some (.ref (He.ga K "is_integer"))
  g_is_string : mg "is_string" = some (.ref (He.ga K "is_string"))
  g_law : mg "law" = some (.ref (He.ga K "law"))
  g_need_expressions : mg "need_expressions" = some (.ref (He.ga K "need_expressions"))
  g_quoted : mg "quoted" = some (.ref (He.ga K "quoted"))
  i_MAX_COUNT : ∃ t, mg "MAX_COUNT" = some (.int 20 t)
  i_MAX_LEVELS : ∃ t, mg "MAX_LEVELS" = some (.int 6 t)
  i_MAX_LITERAL : ∃ t, mg "MAX_LITERAL" = some (.int 12 t)
  i_MAX_SIZE : ∃ t, mg "MAX_SIZE" = some (.int 40 t)
  isc_AnyChar : PySem.W.isClsIn K (He.ga K "AnyChar") = true
  isc_Literal : PySem.W.isClsIn K (He.ga K "Literal") = true
  isc_Repeat : PySem.W.isClsIn K (He.ga K "Repeat") = true
  me_BadExpression____init__ : PySem.W.findIn K (.ref (He.ga K "BadExpression")) "__init__" = some (some (.ref (He.ma K (He.ga K "BadExpression") "__init__")))
  no_BadExpression__reason : PySem.W.findIn K (.ref (He.ga K "BadExpression")) "reason" = some none
  oex_BadExpression : OexC K (He.ga K "BadExpression")
  tne__law_right__VS__law : tabOf K dp__law_right ≠ tabOf K dp_law
  tup_PREFIXED : ∀ H : Hp, SqT K H (He.ga K "PREFIXED") ([V.str "sequence", V.str "choice", V.str "ahead", V.str "not", V.str "repeat"])
  vei_Invalid : VeInit K (He.ga K "Invalid")
  d_is_integer : DefOk K dp_is_integer
  d_is_string : DefOk K dp_is_string
  d_quoted : DefOk K dp_quoted
  d_BadExpression___init__ : DefOk K dp_BadExpression___init__
  d_need_expressions : DefOk K dp_need_expressions
  d_grouped : DefOk K dp_grouped
  d_count_text : DefOk K dp_count_text
  d_Expression___init__ : DefOk K dp_Expression___init__
  d_Expression___eq__ : DefOk K dp_Expression___eq__
  d_Literal___init__ : DefOk K dp_Literal___init__
  d_AnyChar___init__ : DefOk K dp_AnyChar___init__
  d_Repeat___init__ : DefOk K dp_Repeat___init__
  d__law_source : DefOk K dp__law_source
  d__law_next : DefOk K dp__law_next
  d__law_pick : DefOk K dp__law_pick
  d__law_refused_so : DefOk K dp__law_refused_so
  d__law_count : DefOk K dp__law_count
  d__law_is_count : DefOk K dp__law_is_count
  d__law_right : DefOk K dp__law_right
  d_law : DefOk K dp_law
  tbl_SPECIAL : KTab K w (He.ga K "SPECIAL") [("\\", V.str "\\\\"), ("\n", V.str "\\n"), ("\t", V.str "\\t")]
  lam__law_right : (fdAt K (dp__law_right.pa.at_ K)).code = .ref (codeOf K dp__law_right)
  lam_law : (fdAt K (dp_law.pa.at_ K)).code = .ref (codeOf K dp_law)
def lms : List DefP := [dp__law_right, dp_law]
def tbs : List Tb := [("SPECIAL", [("\\", V.str "\\\\"), ("\n", V.str "\\n"), ("\t", V.str "\\t")])]
def cks0 : List (Frag → Bool) := [fun K => He.eqO (PySem.W.nsIn K cStatics "thirdparty.any") (some none)]
def cks1 : List (Frag → Bool) := [fun K => He.Fa.ok K (.exm "BadExpression" "BadExpression" true), exsB, fun K => He.Fa.ok K (.free "all"), fun K => He.Fa.ok K (.free "bool"), fun K => He.Fa.ok K (.free "int"), fun K => He.Fa.ok K (.free "isinstance"), fun K => He.Fa.ok K (.free "len"), fun K => He.Fa.ok K (.free "max"), fun K => He.Fa.ok K (.free "min"), fun K => He.Fa.ok K (.free "range"), fun K => He.Fa.ok K (.free "repr"), fun K => He.Fa.ok K (.free "str"), fun K => He.Fa.ok K (.free "sum"), fun K => He.Fa.ok K (.free "super"), fun K => He.Fa.ok K (.free "tuple"), fun K => He.Fa.ok K (.glo "AnyChar"), fun K => He.Fa.ok K (.glo "BadExpression"), fun K => He.Fa.ok K (.glo "Expression"), fun K => He.Fa.ok K (.glo "Invalid"), fun K => He.Fa.ok K (.glo "Literal"), fun K => He.Fa.ok K (.glo "PREFIXED"), fun K => He.Fa.ok K (.glo "Repeat"), fun K => He.Fa.ok K (.glo "SPECIAL"), fun K => He.Fa.ok K (.glo "_law_count"), fun K => He.Fa.ok K (.glo "_law_is_count")]
def cks2 : List (Frag → Bool) := [fun K => He.Fa.ok K (.glo "_law_next"), fun K => He.Fa.ok K (.glo "_law_pick"), fun K => He.Fa.ok K (.glo "_law_refused_so"), fun K => He.Fa.ok K (.glo "_law_right"), fun K => He.Fa.ok K (.glo "_law_source"), fun K => He.Fa.ok K (.glo "count_text"), fun K => He.Fa.ok K (.glo "grouped"), fun K => He.Fa.ok K (.glo "is_integer"), fun K => He.Fa.ok K (.glo "is_string"), fun K => He.Fa.ok K (.glo "law"), fun K => He.Fa.ok K (.glo "need_expressions"), fun K => He.Fa.ok K (.glo "quoted"), fun K => He.Fa.ok K (.int "MAX_COUNT" 20), fun K => He.Fa.ok K (.int "MAX_LEVELS" 6), fun K => He.Fa.ok K (.int "MAX_LITERAL" 12), fun K => He.Fa.ok K (.int "MAX_SIZE" 40), fun K => PySem.W.isClsIn K (He.ga K "AnyChar"), fun K => PySem.W.isClsIn K (He.ga K "Literal"), fun K => PySem.W.isClsIn K (He.ga K "Repeat"), fun K => He.eqO (PySem.W.findIn K (.ref (He.ga K "BadExpression")) "__init__") (some (some (.ref (He.ma K (He.ga K "BadExpression") "__init__")))), fun K => He.eqO (PySem.W.findIn K (.ref (He.ga K "BadExpression")) "reason") (some none), fun K => oexB K (He.ga K "BadExpression"), fun K => decide (tabOf K dp__law_right ≠ tabOf K dp_law), fun K => He.tupB K "PREFIXED" [.str "sequence", .str "choice", .str "ahead", .str "not", .str "repeat"], fun K => veInitB K (He.ga K "Invalid")]
def cks : List (Frag → Bool) := cks0 ++ (cks1 ++ (cks2))
def fns0 : List DefP := [dp_is_integer, dp_is_string, dp_quoted, dp_BadExpression___init__, dp_need_expressions, dp_grouped, dp_count_text, dp_Expression___init__, dp_Expression___eq__, dp_Literal___init__, dp_AnyChar___init__, dp_Repeat___init__, dp__law_source, dp__law_next, dp__law_pick, dp__law_refused_so, dp__law_count, dp__law_is_count, dp__law_right, dp_law]
def fns : List DefP := fns0
theorem tab_of {K : Frag} {w : World} {h : Heap} {mg : Str → Option Value} (X : K.In h) (G : h.Ns mainGlobals mg) (c : SaysP cks fns tbs w K) (L : ∀ d ∈ lms, LamAt K h d) : Tab LW.prog K w mg where
  pm := ⟨by decide +kernel, by decide +kernel⟩
  opq := He.eqO_ok (c.fact 0 (f := fun K => He.eqO (PySem.W.nsIn K cStatics "thirdparty.any") (some none)) rfl)
  exm_BadExpression__BadExpression := He.exm_ok (c.fact 1 (f := fun K => He.Fa.ok K (.exm "BadExpression" "BadExpression" true)) rfl)
  exs := exsB_ok (c.fact 2 (f := exsB) rfl)
  f_all := He.free_ok X G (c.fact 3 (f := fun K => He.Fa.ok K (.free "all")) rfl)
  f_bool := He.free_ok X G (c.fact 4 (f := fun K => He.Fa.ok K (.free "bool")) rfl)
  f_int := He.free_ok X G (c.fact 5 (f := fun K => He.Fa.ok K (.free "int")) rfl)
  f_isinstance := He.free_ok X G (c.fact 6 (f := fun K => He.Fa.ok K (.free "isinstance")) rfl)
  f_len := He.free_ok X G (c.fact 7 (f := fun K => He.Fa.ok K (.free "len")) rfl)
  f_max := He.free_ok X G (c.fact 8 (f := fun K => He.Fa.ok K (.free "max")) rfl)
  f_min := He.free_ok X G (c.fact 9 (f := fun K => He.Fa.ok K (.free "min")) rfl)
  f_range := He.free_ok X G (c.fact 10 (f := fun K => He.Fa.ok K (.free "range")) rfl)
  f_repr := He.free_ok X G (c.fact 11 (f := fun K => He.Fa.ok K (.free "repr")) rfl)
  f_str := He.free_ok X G (c.fact 12 (f := fun K => He.Fa.ok K (.free "str")) rfl)
  f_sum := He.free_ok X G (c.fact 13 (f := fun K => He.Fa.ok K (.free "sum")) rfl)
  f_super := He.free_ok X G (c.fact 14 (f := fun K => He.Fa.ok K (.free "super")) rfl)
  f_tuple := He.free_ok X G (c.fact 15 (f := fun K => He.Fa.ok K (.free "tuple")) rfl)
  g_AnyChar := He.glo_ok X G (c.fact 16 (f := fun K => He.Fa.ok K (.glo "AnyChar")) rfl)
  g_BadExpression := He.glo_ok X G (c.fact 17 (f := fun K => He.Fa.ok K (.glo "BadExpression")) rfl)
  g_Expression := He.glo_ok X G (c.fact 18 (f := fun K => He.Fa.ok K (.glo "Expression")) rfl)
  g_Invalid := He.glo_ok X G (c.fact 19 (f := fun K => He.Fa.ok K (.glo "Invalid")) rfl)
  g_Literal := He.glo_ok X G (c.fact 20 (f := fun K => He.Fa.ok K (.glo "Literal")) rfl)
  g_PREFIXED := He.glo_ok X G (c.fact 21 (f := fun K => He.Fa.ok K (.glo "PREFIXED")) rfl)
  g_Repeat := He.glo_ok X G (c.fact 22 (f := fun K => He.Fa.ok K (.glo "Repeat")) rfl)
  g_SPECIAL := He.glo_ok X G (c.fact 23 (f := fun K => He.Fa.ok K (.glo "SPECIAL")) rfl)
  g__law_count := He.glo_ok X G (c.fact 24 (f := fun K => He.Fa.ok K (.glo "_law_count")) rfl)
  g__law_is_count := He.glo_ok X G (c.fact 25 (f := fun K => He.Fa.ok K (.glo "_law_is_count")) rfl)
  g__law_next := He.glo_ok X G (c.fact 26 (f := fun K => He.Fa.ok K (.glo "_law_next")) rfl)
  g__law_pick := He.glo_ok X G (c.fact 27 (f := fun K => He.Fa.ok K (.glo "_law_pick")) rfl)
  g__law_refused_so := He.glo_ok X G (c.fact 28 (f := fun K => He.Fa.ok K (.glo "_law_refused_so")) rfl)
  g__law_right := He.glo_ok X G (c.fact 29 (f := fun K => He.Fa.ok K (.glo "_law_right")) rfl)
  g__law_source := He.glo_ok X G (c.fact 30 (f := fun K => He.Fa.ok K (.glo "_law_source")) rfl)
  g_count_text := He.glo_ok X G (c.fact 31 (f := fun K => He.Fa.ok K (.glo "count_text")) rfl)
  g_grouped := He.glo_ok X G (c.fact 32 (f := fun K => He.Fa.ok K (.glo "grouped")) rfl)
  g_is_integer := He.glo_ok X G (c.fact 33 (f := fun K => He.Fa.ok K (.glo "is_integer")) rfl)
  g_is_string := He.glo_ok X G (c.fact 34 (f := fun K => He.Fa.ok K (.glo "is_string")) rfl)
  g_law := He.glo_ok X G (c.fact 35 (f := fun K => He.Fa.ok K (.glo "law")) rfl)
  g_need_expressions := He.glo_ok X G (c.fact 36 (f := fun K => He.Fa.ok K (.glo "need_expressions")) rfl)
  g_quoted := He.glo_ok X G (c.fact 37 (f := fun K => He.Fa.ok K (.glo "quoted")) rfl)
  i_MAX_COUNT := He.int_ok X G (c.fact 38 (f := fun K => He.Fa.ok K (.int "MAX_COUNT" 20)) rfl)
  i_MAX_LEVELS := He.int_ok X G (c.fact 39 (f := fun K => He.Fa.ok K (.int "MAX_LEVELS" 6)) rfl)
  i_MAX_LITERAL := He.int_ok X G (c.fact 40 (f := fun K => He.Fa.ok K (.int "MAX_LITERAL" 12)) rfl)
  i_MAX_SIZE := He.int_ok X G (c.fact 41 (f := fun K => He.Fa.ok K (.int "MAX_SIZE" 40)) rfl)
  isc_AnyChar := (c.fact 42 (f := fun K => PySem.W.isClsIn K (He.ga K "AnyChar")) rfl)
  isc_Literal := (c.fact 43 (f := fun K => PySem.W.isClsIn K (He.ga K "Literal")) rfl)
  isc_Repeat := (c.fact 44 (f := fun K => PySem.W.isClsIn K (He.ga K "Repeat")) rfl)
  me_BadExpression____init__ := He.eqO_ok (c.fact 45 (f := fun K => He.eqO (PySem.W.findIn K (.ref (He.ga K "BadExpression")) "__init__") (some (some (.ref (He.ma K (He.ga K "BadExpression") "__init__"))))) rfl)
  no_BadExpression__reason := He.eqO_ok (c.fact 46 (f := fun K => He.eqO (PySem.W.findIn K (.ref (He.ga K "BadExpression")) "reason") (some none)) rfl)
  oex_BadExpression := oexB_ok (c.fact 47 (f := fun K => oexB K (He.ga K "BadExpression")) rfl)
  tne__law_right__VS__law := of_decide_eq_true (c.fact 48 (f := fun K => decide (tabOf K dp__law_right ≠ tabOf K dp_law)) rfl)
  tup_PREFIXED := He.tupB_ok (c.fact 49 (f := fun K => He.tupB K "PREFIXED" [.str "sequence", .str "choice", .str "ahead", .str "not", .str "repeat"]) rfl)
  vei_Invalid := veInitB_ok (c.fact 50 (f := fun K => veInitB K (He.ga K "Invalid")) rfl)
  d_is_integer := c.def_ 0 (d := dp_is_integer) rfl
  d_is_string := c.def_ 1 (d := dp_is_string) rfl
  d_quoted := c.def_ 2 (d := dp_quoted) rfl
  d_BadExpression___init__ := c.def_ 3 (d := dp_BadExpression___init__) rfl
  d_need_expressions := c.def_ 4 (d := dp_need_expressions) rfl
  d_grouped := c.def_ 5 (d := dp_grouped) rfl
  d_count_text := c.def_ 6 (d := dp_count_text) rfl
  d_Expression___init__ := c.def_ 7 (d := dp_Expression___init__) rfl
  d_Expression___eq__ := c.def_ 8 (d := dp_Expression___eq__) rfl
  d_Literal___init__ := c.def_ 9 (d := dp_Literal___init__) rfl
  d_AnyChar___init__ := c.def_ 10 (d := dp_AnyChar___init__) rfl
  d_Repeat___init__ := c.def_ 11 (d := dp_Repeat___init__) rfl
  d__law_source := c.def_ 12 (d := dp__law_source) rfl
  d__law_next := c.def_ 13 (d := dp__law_next) rfl
  d__law_pick := c.def_ 14 (d := dp__law_pick) rfl
  d__law_refused_so := c.def_ 15 (d := dp__law_refused_so) rfl
  d__law_count := c.def_ 16 (d := dp__law_count) rfl
  d__law_is_count := c.def_ 17 (d := dp__law_is_count) rfl
  d__law_right := c.def_ 18 (d := dp__law_right) rfl
  d_law := c.def_ 19 (d := dp_law) rfl
  lam__law_right := (L dp__law_right (by simp [lms])).code
  lam_law := (L dp_law (by simp [lms])).code
  tbl_SPECIAL := c.tab_ 0 (t := ("SPECIAL", [("\\", V.str "\\\\"), ("\n", V.str "\\n"), ("\t", V.str "\\t")])) rfl
theorem hu_lam__law_right {P : Program} {w : World} {K : Frag} {mg : Str → Option Value} (T : Tab P K w mg) : ∀ p ∈ tabsQ K lms, p.1 = tabOf K dp__law_right → p.2 = dp__law_right.qual ++ ".<locals>." ++ "<lambda>" := by
    intro p hp e
    have hp2 : p = (tabOf K dp__law_right, dp__law_right.qual ++ ".<locals>." ++ "<lambda>") ∨ p = (tabOf K dp_law, dp_law.qual ++ ".<locals>." ++ "<lambda>") := by
      simpa [tabsQ, lms] using hp
    rcases hp2 with rfl | rfl
    · rfl
    · exact absurd e (Ne.symm T.tne__law_right__VS__law)
theorem hu_lam_law {P : Program} {w : World} {K : Frag} {mg : Str → Option Value} (T : Tab P K w mg) : ∀ p ∈ tabsQ K lms, p.1 = tabOf K dp_law → p.2 = dp_law.qual ++ ".<locals>." ++ "<lambda>" := by
    intro p hp e
    have hp2 : p = (tabOf K dp__law_right, dp__law_right.qual ++ ".<locals>." ++ "<lambda>") ∨ p = (tabOf K dp_law, dp_law.qual ++ ".<locals>." ++ "<lambda>") := by
      simpa [tabsQ, lms] using hp
    rcases hp2 with rfl | rfl
    · exact absurd e T.tne__law_right__VS__law
    · rfl
def names0 : List PySem.Str := ["_wall", "Invalid", "BadExpression", "BadText", "MAX_PARTS", "MAX_SIZE", "MAX_LEVELS", "MAX_COUNT", "MAX_SOURCE", "LETTERS", "MAX_NAME", "is_integer", "is_string", "is_name", "DIGITS", "SIGNS", "MAX_OPEN", "MEMBERS", "LITERAL_ESCAPES", "SET_ESCAPES", "CONTROLS", "ATOMS", "PREFIXES", "SUFFIXES", "line_end", "run_end", "escaped", "literal_at", "label_at", "member_at"]
def names1 : List PySem.Str := ["set_at", "symbol_at", "Reader", "need_source", "read_expression", "SPECIAL", "quoted", "member_text", "runs_of", "set_text", "count_text", "MAX_LITERAL", "MAX_MEMBERS", "GROUPS", "PREFIXED", "Expression", "parts_for", "grouped", "need_expressions", "need_parts", "Literal", "Chars", "AnyChar", "Ref", "Sequence", "Choice", "Repeat", "Gather", "Ahead", "Not"]
def names2 : List PySem.Str := ["Cut", "built", "built_group", "_law_source", "_law_next", "_law_pick", "_law_refused_so", "_law_count", "_law_is_count", "_law_right"]
def names : List PySem.Str := names0 ++ (names1 ++ (names2))
abbrev R : PySem.W.OpenRow := PySem.W.OpenLaw.row LW
abbrev hk : PySem.W.Hook := hookP 1500 cks fns tbs lms
def ob (s : PySem.W.SharedT) : Bool × AlP := obsPG 1500 cks fns tbs lms (HandSHeadRun.getT s)
theorem ob_eq (s : PySem.W.SharedT) : ob s = hk.obs s.abs := obsPG_eq (HandSHeadRun.getT_eq s)
theorem run_f (w : World) : HandSHeadRun.RunEq R (PySem.W.view R.prog [76]) hk ob 20000 names (w.withFollow "special-get-raises" false) := by
  intro os
  kernel_rfl
theorem run_t (w : World) : HandSHeadRun.RunEq R (PySem.W.view R.prog [76]) hk ob 20000 names (w.withFollow "special-get-raises" true) := by
  intro os
  kernel_rfl
theorem run (w : World) : HandSHeadRun.RunEq R (PySem.W.view R.prog [76]) hk ob 20000 names w :=
  PySem.W.byRow2 "special-get-raises" (P := fun w => HandSHeadRun.RunEq R (PySem.W.view R.prog [76]) hk ob 20000 names w) run_f run_t w
local macro_rules | `(tactic| walk_at "isi") => `(tactic| first | assumption | exact Isi.int _ | exact Isi.int_bl _ | exact Isi.int_str _ | exact Isi.bl_int _ | exact Isi.bl _ | exact Isi.bl_str _ | exact Isi.str _ | exact Isi.str_int _ | exact Isi.str_bl _)
local macro_rules | `(tactic| walk_at "hp") => `(tactic| first | assumption | exact upd_same | (refine' upd_keep ?hk ?hn; (case hk => walk_at "hp"); (case hn => walk_at "ne")) | (refine' Ext.app ?hx ?hy; (case hx => assumption); (case hy => walk_at "hp")) | (refine' ExtX.app ?hx ?hn ?hy; (case hx => assumption); (case hn => walk_at "ne"); (case hy => walk_at "hp")))
local macro_rules | `(tactic| walk_at "ne") => `(tactic| first | assumption | (exact Ne.symm (by assumption)) | (exact ne_of_none (by assumption) (by assumption)) | (exact Ne.symm (ne_of_none (by assumption) (by assumption))))
local macro_rules | `(tactic| walk_at "len") => `(tactic| first | assumption | (rw [sizeLine_eq]; first | assumption | omega | (simp only [List.length_cons, List.length_nil]; omega) | ((try simp only [strLen_append, lenE, len0, len1, len2, len3, len4, len5, len6, len7, len8, len9, len10, len11, len12, len13, len14, len15, len16, len17, len18, len19, len20, len21]); omega)))
local macro_rules | `(tactic| walk_at "cl") => `(tactic| first | assumption)
local macro_rules | `(tactic| walk_at "sj") => `(tactic| first | (with_reducible refine' go_nil ?_) | (with_reducible refine' go_cons ?_) | (with_reducible refine' go_cb ?_) | (with_reducible refine' go_ret ?_) | (with_reducible refine' go_retN ?_) | (with_reducible refine' go_seq ?_) | (with_reducible refine' go_next ?_) | (with_reducible refine' go_asg ?_) | (with_reducible refine' go_drop ?_) | (with_reducible refine' go_test ?_) | (with_reducible refine' go_b ?_) | (with_reducible refine' go_and ?_) | (with_reducible refine' go_or ?_) | (with_reducible refine' go_not ?_) | (with_reducible refine' go_andV ?_) | (with_reducible refine' go_orV ?_) | (with_reducible refine' go_notV ?_) | (with_reducible refine' go_chain ?_) | (with_reducible refine' go_op ?_) | (with_reducible refine' go_un ?_) | (with_reducible refine' go_name ?_) | (with_reducible refine' go_fld ?_) | (with_reducible refine' go_con ?_) | (with_reducible refine' go_sfld ?_) | (with_reducible refine' go_call ?_) | (with_reducible refine' go_kget ?_) | (with_reducible refine' go_m0 ?_) | (with_reducible refine' go_m1 ?_) | (with_reducible refine' go_jnil ?_) | (with_reducible refine' go_jcons ?_) | (with_reducible refine' go_fmt ?_) | (with_reducible refine' go_err ?_) | (with_reducible refine' go_yes ?_) | (with_reducible refine' go_str ?_) | (with_reducible refine' go_itup ?_) | (with_reducible refine' go_ilist ?_) | (with_reducible refine' go_addI ?_) | (with_reducible refine' go_gsub ?_) | (with_reducible refine' go_rI0 ?_) | (with_reducible refine' go_rU ?_) | (with_reducible refine' go_isN ?_) | (with_reducible refine' go_notN ?_) | (with_reducible refine' go_irng ?_) | (with_reducible refine' go_make ?_) | (with_reducible refine' go_makeK ?_) | (with_reducible refine' go_tup ?_) | (with_reducible refine' go_lst ?_) | (with_reducible refine' go_c ?_) | ((with_reducible (refine' go_var ?gv ?_)); (case gv => exact rfl)) | ((with_reducible (refine' go_eqS ?gv ?_)); (case gv => exact rfl)) | ((with_reducible (refine' go_neS ?gv ?_)); (case gv => exact rfl)) | (with_reducible (refine' iteT ?_)) | (with_reducible (refine' iteF ?_)) | (with_reducible (refine' iteNF ?_)) | (with_reducible (refine' iteNT ?_)) | (with_reducible (refine' iteX1 ?_)) | (with_reducible (refine' iteX0 ?_)) | (with_reducible (refine' iteY1 ?_)) | (with_reducible (refine' iteY0 ?_)) | ((with_reducible (refine' go_addS ?gv ?_)); (case gv => walk_at "len")) | ((with_reducible (refine' go_lenS ?gv ?_)); (case gv => walk_at "len")) | ((with_reducible (refine' And.intro (a := _ ≤ sizeLine) ?gv ?_)); (case gv => walk_at "len")) | ((with_reducible (refine' Or.inl ⟨_, rfl, ?gv, ?_⟩)); (case gv => walk_at "len")) | ((with_reducible (refine' Or.inr ⟨_, rfl, ?gv, ?_⟩)); (case gv => (refine log_small ?_; omega))) | (with_reducible (refine ⟨_, rfl, ?_⟩)) | (with_reducible (refine ⟨⟨_, rfl⟩, ?_⟩)) | ((refine' isi_ty ?hi ?hq); (case hi => walk_at "isi")) | ((with_reducible (refine' ⟨_, _, _, _, _, rfl, ?hh, ?hc, ?hn, ?hl, ?hq⟩)); (case hh => walk_at "hp"); (case hc => walk_at "cl"); (case hn => walk_at "cl"); (case hl => rfl)) | ((with_reducible (refine' ⟨_, _, _, _, rfl, ?hh, ?hc, ?hn, ?hl, ?hq⟩)); (case hh => walk_at "hp"); (case hc => walk_at "cl"); (case hn => walk_at "cl"); (case hl => first | assumption | (show (_ : Nat) < 1000; simp) | decide | exact Nat.le_of_ble_eq_true rfl)))
local macro_rules | `(tactic| walk_at "si") => `(tactic| first | walk_at "sj" | (with_reducible refine' go_ifs ?_))
local macro_rules | `(tactic| walk_at "gs") => `(tactic| (repeat walk_at "sj"))
local macro_rules | `(tactic| walk_at "st") => `(tactic| first | walk_at "si" | (with_reducible refine' go_if ?_))
local macro_rules | `(tactic| walk_at "gi") => `(tactic| (repeat walk_at "si"))
local macro_rules | `(tactic| walk_at "go") => `(tactic| (repeat walk_at "st"))
local macro_rules | `(tactic| walk_at "fr") => `(tactic| (with_reducible refine' go_for ?_))
local macro_rules | `(tactic| walk_at "tp") => `(tactic| refine ⟨(by show (_ : Nat) ≤ sizeLine; first | decide | (rw [sizeLine_eq]; simp)), ?_⟩)
section
variable {P : Program} {w : World} {K : Frag} {mg : Str → Option Value} {base : Heap}
theorem ok_is_integer (T : Tab P K w mg) : GFn P w K mg base "is_integer" 1 ["value", "low", "high"] (sp_is_integer K) [] := by
  refine gfn_mk (d := dp_is_integer) ?_ T.d_is_integer rfl rfl T.g_is_integer fun _ _ _ _ _ _ us hl => match us, hl with | [_, _, _], _ => rfl
  refine fn_mk (d := dp_is_integer) T.d_is_integer rfl sc_is_integer (fun vs H Q E h => ?_) fun cdv A outer s H vs Q E hr h => ?_
  · obtain ⟨v, lo, hi, rfl, hv, hq⟩ := h
    rfl
  · obtain ⟨v, lo, hi, rfl, hv, hq⟩ := h
    refine ⟨_, (pss_one (ps_ret (pe_and (pe_callB (call_isiK (K := K) rfl) (by rfl) T.f_isinstance (by decide +kernel) (pa_cons (pv 0) (pa_cons (pe_bltn (v := .ty "int") (u := .type "int") rfl T.f_int (by decide +kernel) rfl) pa_nil))) (pe_and (pe_not (pe_callB (call_isiK (K := K) rfl) (by rfl) T.f_isinstance (by decide +kernel) (pa_cons (pv 0) (pa_cons (pe_bltn (v := .ty "bool") (u := .type "bool") rfl T.f_bool (by decide +kernel) rfl) pa_nil)))) (pe_one (pe_chain op_le op_le (pv 1) (pv 0) (pv 2))))))), ?_⟩
    rcases hv with ⟨i, rfl⟩ | ⟨b, rfl⟩ | ⟨hv, e⟩
    · walk_at "go"
      by_cases h1 : lo ≤ i
      · have e : isInt (.int i) lo hi = decide (i ≤ hi) := by simp [isInt, h1]
        rw [e] at hq
        rw [decide_eq_true h1]
        walk_at "go"
        exact hq
      · have e : isInt (.int i) lo hi = false := by simp [isInt, h1]
        rw [e] at hq
        rw [decide_eq_false h1]
        walk_at "go"
        exact hq
    · walk_at "go"
      exact hq
    · walk_at "go"
      rw [e] at hq
      exact hq

theorem ok_is_string (T : Tab P K w mg) : GFn P w K mg base "is_string" 1 ["value", "low", "high"] (sp_is_string K) [] := by
  refine gfn_mk (d := dp_is_string) ?_ T.d_is_string rfl rfl T.g_is_string fun _ _ _ _ _ _ us hl => match us, hl with | [_, _, _], _ => rfl
  refine fn_mk (d := dp_is_string) T.d_is_string rfl sc_is_string (fun vs H Q E h => ?_) fun cdv A outer s H vs Q E hr h => ?_
  · obtain ⟨v, lo, hi, rfl, hv, hq⟩ := h
    rfl
  · obtain ⟨v, lo, hi, rfl, hv, hq⟩ := h
    refine ⟨_, (pss_one (ps_ret (pe_and (pe_callB (call_isiK (K := K) rfl) (by rfl) T.f_isinstance (by decide +kernel) (pa_cons (pv 0) (pa_cons (pe_bltn (v := .ty "str") (u := .type "str") rfl T.f_str (by decide +kernel) rfl) pa_nil))) (pe_one (pe_chain op_le op_le (pv 1) (pe_callB (call_lenK (K := K) rfl) (by rfl) T.f_len (by decide +kernel) (pa_cons (pv 0) pa_nil)) (pv 2)))))), ?_⟩
    rcases hv with ⟨x, rfl, hx⟩ | ⟨hv, e⟩
    · walk_at "go"
      by_cases h1 : lo ≤ (x.length : Int)
      · have e : isStrIn (.str x) lo hi = decide ((x.length : Int) ≤ hi) := by simp [isStrIn, h1]
        rw [e] at hq
        rw [decide_eq_true h1]
        walk_at "go"
        exact hq
      · have e : isStrIn (.str x) lo hi = false := by simp [isStrIn, h1]
        rw [e] at hq
        rw [decide_eq_false h1]
        walk_at "go"
        exact hq
    · walk_at "go"
      rw [e] at hq
      exact hq

theorem ok_quoted (T : Tab P K w mg) : GFn P w K mg base "quoted" 1 ["text"] (sp_quoted K) [] := by
  refine gfn_mk (d := dp_quoted) ?_ T.d_quoted rfl rfl T.g_quoted fun _ _ _ _ _ _ us hl => match us, hl with | [_], _ => rfl
  refine fn_mk (d := dp_quoted) T.d_quoted rfl sc_quoted (fun vs H Q E h => ?_) fun cdv A outer s H vs Q E hr h => ?_
  · obtain ⟨x, rfl, hx, hq⟩ := h
    rfl
  · obtain ⟨x, rfl, hx, hq⟩ := h
    refine ⟨_, (pss_cons (ps_setLc (i := 1) (own := [("sign", 2)]) (g := gName 2) rfl sc_quoted.nd rfl rfl (sw_true rfl rfl rfl rfl) (pi_str (pv 0)) (blkOk_by (N := ["text", "found", "sign"]) (sc := defScope s_quoted) (by decide +kernel)) (fun _ _ _ _ _ => pg_name (i := 2) sc_quoted.nd rfl (Or.inl rfl)) (fun _ _ _ _ _ => pts_nil) (fun _ _ _ _ _ => (pe_kget2K (K := K) (w := w) rfl rfl (pe_glob (v := .ref (He.ga K "SPECIAL")) rfl T.g_SPECIAL rfl) (pv 2) (pe_ifExp (pt_cmpR (op_eqK (K := K) rfl (Room.units hr)) (pv 2) pe_str (nomark _)) pe_str (pv 2)) (by exact ⟨rfl, rfl, rfl, rfl⟩))))
    (pss_one (ps_ret (pe_op (op_addK (K := K) rfl) (pe_op (op_addK (K := K) rfl) pe_str (pe_joinK (K := K) rfl pe_str (pv 1))) pe_str)))), ?_⟩
    walk_at "go"
    refine go_lcS x (fun c => .str (signQ c)) (fun R r => go_var rfl r) (Nat.le_trans hx (by decide)) (fun c H1 x1 R hR => ?_) (fun _ => rfl) fun D H1 hD x1 hL => ?_
    · walk_at "go"
      refine ⟨_, _, rfl, T.tbl_SPECIAL, ?_⟩
      walk_at "go"
      rw [one_quote]
      have e : ∀ z : V, z = (if c = 39 then V.str "\\'" else V.str ⟨#[c]⟩) → R (([(("\\" : Str), V.str "\\\\"), ("\n", V.str "\\n"), ("\t", V.str "\\t")] : List (Str × V)).lookup ⟨#[c]⟩ |>.getD z) H1 := by
        intro z hz
        subst hz
        rw [look_special]
        have e2 : (if c = 92 then V.str "\\\\" else if c = 10 then V.str "\\n" else if c = 9 then V.str "\\t" else if c = 39 then V.str "\\'" else V.str ⟨#[c]⟩) = V.str (signQ c) := by
          unfold signQ
          repeat' split
          all_goals rfl
        rw [e2]
        exact hR
      by_cases h : c = 39
      · rw [decide_eq_true h]
        walk_at "go"
        exact e _ (by rw [if_pos h])
      · rw [decide_eq_false h]
        walk_at "go"
        exact e _ (by rw [if_neg h])
    · walk_at "go"
      have z1 := quotedS_len x
      have z2 : (Txt.join "" (x.cps.toList.map signQ)).length ≤ 2 * x.length := by
        have h := join_empty (x.cps.toList.map signQ) 2 (fun y hy => by
          obtain ⟨c, _, rfl⟩ := List.mem_map.mp hy
          exact signQ_len c)
        rwa [List.length_map, Array.length_toList] at h
      refine go_joinL (ys := x.cps.toList.map signQ) (.inl (.inl ?_)) ?_ ?_
      · rw [List.map_map]
        exact hL
      · have e : ((x.cps.toList.map signQ).map (·.length)).sum + (x.cps.toList.map signQ).length * ("" : Str).length ≤ 2 * x.length := by
          rw [show ("" : Str).length = 0 from rfl, Nat.mul_zero, Nat.add_zero]
          have e : (Txt.join "" (x.cps.toList.map signQ)).length = ((x.cps.toList.map signQ).map (·.length)).sum + ((x.cps.toList.map signQ).length - 1) * ("" : Str).length := size_glued _ _
          rw [show ("" : Str).length = 0 from rfl, Nat.mul_zero, Nat.add_zero] at e
          omega
        omega
      · refine go_addS ?_ ?_
        · rw [sizeLine_eq, show ("'" : Str).length = 1 from rfl]
          omega
        · walk_at "go"
          exact hq _ x1

theorem ok_BadExpression___init__ (T : Tab P K w mg) : FnOk P w K mg base (L2.CX P w) 2 (dp_BadExpression___init__.pa.at_ K) (fdAt K (dp_BadExpression___init__.pa.at_ K)) ["self", "reason"] (spErr (He.ga K "BadExpression") "reason") := by
  refine fn_mk (d := dp_BadExpression___init__) T.d_BadExpression___init__ rfl sc_BadExpression___init__ (fun vs H Q E h => ?_) fun cdv A outer s H vs Q E hr h => ?_
  · obtain ⟨a, v, rfl, _⟩ := h
    rfl
  · obtain h := h
    refine ⟨_, (pss_cons (ps_expr (pe_clsinit rfl T.g_Invalid T.vei_Invalid.cr T.vei_Invalid.cv T.vei_Invalid.ty (pa_cons (pv 0) (pa_cons pe_str pa_nil))))
    (pss_one (ps_ost (pv 0) (pv 1) rfl))), ?_⟩
    exact err_read (by decide) T.oex_BadExpression T.no_BadExpression__reason h _
theorem bd_BadExpression___init__ (T : Tab P K w mg) : Binds K (fdAt K (dp_BadExpression___init__.pa.at_ K)) ["self", "reason"] [] := T.d_BadExpression___init__.binds rfl fun _ _ _ _ _ _ _ us hl => match us, hl with | [_, _], _ => rfl
theorem oe_BadExpression (T : Tab P K w mg) : ErrOk P w K mg base "BadExpression" (He.ga K "BadExpression") "reason" :=
  err_ok (d := dp_BadExpression___init__) T.g_BadExpression T.oex_BadExpression T.me_BadExpression____init__ T.d_BadExpression___init__ rfl (ok_BadExpression___init__ T) fun _ _ _ _ _ _ _ us hl => match us, hl with | [_, _], _ => rfl

theorem ok_need_expressions (T : Tab P K w mg) : GFn P w K mg base "need_expressions" 4 ["some"] (sp_need_expressions K) [] := by
  refine gfn_mk (d := dp_need_expressions) ?_ T.d_need_expressions rfl rfl T.g_need_expressions fun _ _ _ _ _ _ us hl => match us, hl with | [_], _ => rfl
  refine fn_mk (d := dp_need_expressions) T.d_need_expressions rfl sc_need_expressions (fun vs H Q E h => ?_) fun cdv A outer s H vs Q E hr h => ?_
  · obtain ⟨tp, us, bs, rfl, hS, hl, hb, hq⟩ := h
    rfl
  · obtain ⟨tp, us, bs, rfl, hS, hl, hb, hq⟩ := h
    refine ⟨_, (pss_one (ps_for po_fn rfl (pi_tupK (K := K) rfl (pv 0)) (pg_name (i := 1) sc_need_expressions.nd rfl (Or.inl rfl))
    (pss_one (ps_if (pt_not (pt_val (pe_callB (call_isiK (K := K) rfl) (by rfl) T.f_isinstance (by decide +kernel) (pa_cons (pv 1) (pa_cons (pe_glob (v := .ref (He.ga K "Expression")) rfl T.g_Expression rfl) pa_nil)))))
    (pss_one (ps_raise rfl tk_fn (pmk_err (C := He.ga K "BadExpression") (oe_BadExpression T) (hr.mono (by decide)) rfl (pa_cons pe_str pa_nil))))
    pss_nil)))), ?_⟩
    refine go_forT tp us (fun n σ H' => H' = H ∧ (∃ o, σ = [some (.ref tp), o]) ∧ ∀ j : Nat, j < n → bs[j]? = some true) (fun R r => go_var rfl r) ⟨rfl, ⟨_, rfl⟩, fun j hj => absurd hj (Nat.not_lt_zero j)⟩ (fun n σ H' _ p => ?_) (fun n x σ H' hx p => ?_) fun σ H' p => ?_
    · rw [p.1]
      exact hS
    · obtain ⟨rfl, ⟨o, rfl⟩, ht⟩ := p
      have hn : n < bs.length := by
        rcases Nat.lt_or_ge n us.length with z | z
        · rwa [hl] at z
        · rw [List.getElem?_eq_none z] at hx
          cases hx
      have hbn : bs[n]? = some bs[n] := List.getElem?_eq_getElem hn
      have hi := hb n x _ hx hbn H' Ext.rf
      walk_at "go"
      refine go_isiC hi ?_
      walk_at "go"
      cases hc : bs[n] with
      | true =>
        walk_at "go"
        refine ⟨rfl, ⟨_, rfl⟩, fun j hj => ?_⟩
        rcases Nat.lt_succ_iff_lt_or_eq.mp hj with z | z
        · exact ht j z
        · rw [z, hbn, hc]
      | false =>
        walk_at "go"
        rw [hc] at hbn
        rw [not_all_id hbn] at hq
        exact fun d H1 _ x1 hd => hq d H1 x1 ⟨_, hd⟩
    · obtain ⟨rfl, ⟨o, rfl⟩, ht⟩ := p
      rw [all_id (fun j hj => ht j (by rw [hl]; exact hj))] at hq
      exact hq _ Ext.rf

theorem ok_grouped (T : Tab P K w mg) : GFn P w K mg base "grouped" 1 ["part", "kinds"] (sp_grouped K) [] := by
  refine gfn_mk (d := dp_grouped) ?_ T.d_grouped rfl rfl T.g_grouped fun _ _ _ _ _ _ us hl => match us, hl with | [_, _], _ => rfl
  refine fn_mk (d := dp_grouped) T.d_grouped rfl sc_grouped (fun vs H Q E h => ?_) fun cdv A outer s H vs Q E hr h => ?_
  · obtain ⟨v, p, ks, e, rfl, hS, he, hq⟩ := h
    rfl
  · obtain ⟨v, p, ks, e, rfl, hS, he, hq⟩ := h
    refine ⟨_, (pss_one (ps_ret (pe_ifExp (pt_cmpR (op_inK (K := K) rfl) (pe_conK (K := K) rfl (pv 0) rfl) (pv 1) (by rfl)) (pe_joined (PJ.cons pe_str (PJ.cons (pe_fmt (pe_fldK (K := K) rfl (pv 0) rfl)) (PJ.cons pe_str PJ.nil)))) (pe_fldK (K := K) rfl (pv 0) rfl)))), ?_⟩
    obtain ⟨a, dx, tq, ka, vs, us, rfl, ha, _, _, _, _, hf⟩ := he.get
    obtain ⟨u, hk⟩ := (T.exs.cls e.kind).kind
    have hz := hf.text
    have hs := hf.size
    have cl := (T.exs.cls e.kind).ins.cl
    have hn := (T.exs.cls e.kind).na "own_text" (by decide)
    have hlk : (exFs tq ka e.size e.levels e.text (e.kind.own us vs)).lookup ("KIND" : Str) = none := by
      obtain ⟨k, vals, ps, z⟩ := e
      cases k <;> (dsimp only [Ex.kind]; unfold Kind.own; (repeat' split) <;> rfl)
    walk_at "go"
    refine ⟨a, _, _, _, _, u, rfl, ha, cl, hk, hlk, ?_⟩
    walk_at "go"
    refine go_inS ⟨p, _, rfl, .inr hS, rfl, flat_strs ks, ?_⟩
    rw [in_strs]
    by_cases hin : e.kind.name ∈ ks
    · have e2 : groupedS e ks = "(" ++ e.text ++ ")" := if_pos hin
      rw [decide_eq_true hin]
      rw [e2] at hq
      walk_at "go"
      rw [emp_app]
      exact hq
    · have e2 : groupedS e ks = e.text := if_neg hin
      rw [decide_eq_false hin]
      rw [e2] at hq
      walk_at "go"
      exact hq

theorem ok_count_text (T : Tab P K w mg) : GFn P w K mg base "count_text" 1 ["low", "high"] (sp_count_text K) [] := by
  refine gfn_mk (d := dp_count_text) ?_ T.d_count_text rfl rfl T.g_count_text fun _ _ _ _ _ _ us hl => match us, hl with | [_, _], _ => rfl
  refine fn_mk (d := dp_count_text) T.d_count_text rfl sc_count_text (fun vs H Q E h => ?_) fun cdv A outer s H vs Q E hr h => ?_
  · obtain ⟨low, high, rfl, hl, hh, hq⟩ := h
    rfl
  · obtain ⟨low, high, rfl, hl, hh, hq⟩ := h
    refine ⟨_, (pss_cons (ps_if (pt_cmpR op_isN1 (pv 1) pe_non (nomark _))
    (pss_one (ps_ret (pe_dget2 (Nat.lt_of_le_of_lt (Nat.add_le_add_left (by decide) _) (Room.units hr)) (pe_disp (pps_cons pe_int pe_str (pps_cons pe_int pe_str pps_nil)) rfl rfl (by simp) (by decide)) (pv 0) (pe_joined (PJ.cons pe_str (PJ.cons (pe_fmt (pv 0)) (PJ.cons pe_str PJ.nil)))) (by exact ⟨rfl, rfl, rfl, rfl⟩))))
    pss_nil)
    (pss_one (ps_ret (pe_ifExp (pt_cmpR (op_eqK (K := K) rfl (Room.units hr)) (pe_tup (pa_cons (pv 0) (pa_cons (pv 1) pa_nil))) (pe_tup (pa_cons pe_int (pa_cons pe_int pa_nil))) (nomark _)) pe_str (pe_joined (PJ.cons pe_str (PJ.cons (pe_fmt (pv 0)) (PJ.cons pe_str (PJ.cons (pe_fmt (pv 1)) (PJ.cons pe_str PJ.nil)))))))))), ?_⟩
    have n1 := num_len low hl
    cases high with
    | none =>
      dsimp only [Option.map, optV] at hq ⊢
      walk_at "go"
      rw [decide_eq_true rfl]
      walk_at "go"
      intro p hp
      have x1 := Ext.new (o := .dK (mergeK [] [(.inl 0, .str "*"), (.inl 1, .str "+")])) hp
      refine ⟨upd_same, [(.inl 0, .str "*"), (.inl 1, .str "+")], rfl, by decide, p, rfl, .inl ⟨_, .inl upd_same⟩, ?_⟩
      rw [upd_upd]
      walk_at "go"
      refine ⟨_, .inl ⟨_, .inl (low : Int), .inl upd_same, rfl, rfl⟩, ?_⟩
      have hq2 := hq _ x1
      by_cases h0 : low = 0
      · subst h0
        exact hq2
      · by_cases h1 : low = 1
        · subst h1
          exact hq2
        · have e1 : countS (low : Int) none = "{" ++ toString (low : Int) ++ ",}" := by
            unfold countS
            dsimp only
            rw [if_neg (by omega), if_neg (by omega)]
          have e2 : valV (mergeK [] [(.inl 0, .str "*"), (.inl 1, .str "+")]) (.inl (low : Int)) = none := by
            have a0 : ¬ (0 : Int) = low := by omega
            have a1 : ¬ (1 : Int) = low := by omega
            simp [mergeK, putK, valV, List.find?, a0, a1]
          rw [e1] at hq2
          rw [e2, emp_app]
          exact hq2
    | some h =>
      have hh2 := hh h rfl
      have n2 := num_len h hh2
      dsimp only [Option.map, optV] at hq ⊢
      simp only [show Int.ofNat h = ((h : Nat) : Int) from rfl] at hq ⊢
      walk_at "go"
      rw [decide_eq_false (by simp)]
      walk_at "go"
      intro p hp
      walk_at "go"
      intro p2 hp2
      have np : p2 ≠ p := fun z => by
        rw [z, upd_same] at hp2
        cases hp2
      have x1 : Ext H (upd (upd H p (.tup [.int low, .int ((h : Int))])) p2 (.tup [.int 0, .int 1])) := (Ext.new hp).tr (Ext.new hp2)
      have hq2 := hq _ x1
      refine go_eqD (d := .tuple [.int low, .int ((h : Int))]) (e := .tuple [.int 0, .int 1]) (.tup (st_of (by walk_at "hp")) (.cons (.int _) (.cons (.int _) .nil))) (.tup st_new (.cons (.int _) (.cons (.int _) .nil))) rfl rfl ?_
      have ee : PyData.eqv (.tuple [.int low, .int ((h : Int))]) (.tuple [.int 0, .int 1]) = decide (low = 0 ∧ h = 1) := by
        show (((low : Int) == 0) && ((((h : Nat) : Int) == 1) && true)) = _
        rw [Bool.eq_iff_iff, decide_eq_true_iff, Bool.and_true, Bool.and_eq_true, beq_iff_eq, beq_iff_eq]
        omega
      rw [ee]
      by_cases hc : low = 0 ∧ h = 1
      · have e1 : countS (low : Int) (some ((h : Int))) = "?" := if_pos (by show (low : Int) = 0 ∧ ((h : Nat) : Int) = 1; omega)
        rw [decide_eq_true hc]
        rw [e1] at hq2
        walk_at "go"
        exact hq2
      · have e1 : countS (low : Int) (some ((h : Int))) = "{" ++ toString (low : Int) ++ "," ++ toString ((h : Nat) : Int) ++ "}" := if_neg (by show ¬ ((low : Int) = 0 ∧ ((h : Nat) : Int) = 1); omega)
        rw [decide_eq_false hc]
        rw [e1] at hq2
        walk_at "go"
        rw [emp_app]
        exact hq2

theorem ok_Expression___init__ (T : Tab P K w mg) : FnOk P w K mg base (L2.CX P w) 4 (dp_Expression___init__.pa.at_ K) (fdAt K (dp_Expression___init__.pa.at_ K)) ["self", "own_parts", "own_values", "own_text"] (sp_Expression___init__ K) := by
  refine fn_mk (d := dp_Expression___init__) T.d_Expression___init__ rfl sc_Expression___init__ (fun vs H Q E h => ?_) fun cdv A outer s H vs Q E hr h => ?_
  · obtain ⟨a, dx, tp, va, z, k, us, ps, vals, rfl, ha, hS, hps, hl8, hva, hq⟩ := h
    rfl
  · obtain ⟨a, dx, tp, va, z, k, us, ps, vals, rfl, ha, hS, hps, hl8, hva, hq⟩ := h
    refine ⟨_, (pss_cons (ps_if (pt_not (pt_val (pe_callB (cr_allK (K := K) rfl rfl) (by rfl) T.f_all (by decide +kernel) (pa_cons (pe_lc (own := [("part", 4)]) (g := gName 4) rfl sc_Expression___init__.nd (pi_tupK (K := K) rfl (pv 1)) (blkOk_by (N := ["self", "own_parts", "own_values", "own_text", "part"]) (sc := defScope s_Expression___init__) (by decide +kernel)) (fun _ _ _ _ _ => pg_name (i := 4) sc_Expression___init__.nd rfl (Or.inl rfl)) (fun _ _ _ _ _ => pts_nil) (fun _ _ _ _ _ => (pe_callB (call_isiK (K := K) rfl) (by rfl) T.f_isinstance (by decide +kernel) (pa_cons (pv 4) (pa_cons (pe_glob (v := .ref (He.ga K "Expression")) rfl T.g_Expression rfl) pa_nil))))) pa_nil))))
    (pss_one (ps_raise rfl tk_fn (pmk_err (C := He.ga K "BadExpression") (oe_BadExpression T) (hr.mono (by decide)) rfl (pa_cons pe_str pa_nil))))
    pss_nil)
    (pss_cons (ps_fldK (K := K) rfl (pv 0) (pv 1) rfl)
    (pss_cons (ps_fldK (K := K) rfl (pv 0) (pe_op (op_addK (K := K) rfl) pe_int (pe_callB (cr_sumK (K := K) rfl rfl) (by rfl) T.f_sum (by decide +kernel) (pa_cons (pe_lc (own := [("part", 4)]) (g := gName 4) rfl sc_Expression___init__.nd (pi_tupK (K := K) rfl (pv 1)) (blkOk_by (N := ["self", "own_parts", "own_values", "own_text", "part"]) (sc := defScope s_Expression___init__) (by decide +kernel)) (fun _ _ _ _ _ => pg_name (i := 4) sc_Expression___init__.nd rfl (Or.inl rfl)) (fun _ _ _ _ _ => pts_nil) (fun _ _ _ _ _ => (pe_fldK (K := K) rfl (pv 4) rfl))) pa_nil))) rfl)
    (pss_cons (ps_fldK (K := K) rfl (pv 0) (pe_ifExp (pt_cmpR (op_neK (K := K) rfl (Room.units hr)) (pv 1) (pe_tup pa_nil) (nomark _)) (pe_op (op_addK (K := K) rfl) pe_int (pe_callB (cr_maxK (K := K) rfl rfl) (by rfl) T.f_max (by decide +kernel) (pa_cons (pe_lc (own := [("part", 4)]) (g := gName 4) rfl sc_Expression___init__.nd (pi_tupK (K := K) rfl (pv 1)) (blkOk_by (N := ["self", "own_parts", "own_values", "own_text", "part"]) (sc := defScope s_Expression___init__) (by decide +kernel)) (fun _ _ _ _ _ => pg_name (i := 4) sc_Expression___init__.nd rfl (Or.inl rfl)) (fun _ _ _ _ _ => pts_nil) (fun _ _ _ _ _ => (pe_fldK (K := K) rfl (pv 4) rfl))) pa_nil))) pe_int) rfl)
    (pss_cons (ps_if (PW.pt (pw_or (pt_cmpR op_gt (pe_fldK (K := K) rfl (pv 0) rfl) (pe_glob (v := .int 40) rfl T.i_MAX_SIZE.choose_spec ⟨_, rfl⟩) (nomark _)) (pw_or1 (pt_cmpR op_gt (pe_fldK (K := K) rfl (pv 0) rfl) (pe_glob (v := .int 6) rfl T.i_MAX_LEVELS.choose_spec ⟨_, rfl⟩) (nomark _)))))
    (pss_one (ps_raise rfl tk_fn (pmk_err (C := He.ga K "BadExpression") (oe_BadExpression T) (hr.mono (by decide)) rfl (pa_cons pe_str pa_nil))))
    pss_nil)
    (pss_cons (ps_fldK (K := K) rfl (pv 0) (pe_tup (pa_cons (pe_conK (K := K) rfl (pv 0) rfl) (pa_cons (pv 2) (pa_cons (pe_callTy (call_tupK (K := K) rfl) (by rfl) T.f_tuple (by decide +kernel) (pa_cons (pe_lc (own := [("part", 4)]) (g := gName 4) rfl sc_Expression___init__.nd (pi_tupK (K := K) rfl (pv 1)) (blkOk_by (N := ["self", "own_parts", "own_values", "own_text", "part"]) (sc := defScope s_Expression___init__) (by decide +kernel)) (fun _ _ _ _ _ => pg_name (i := 4) sc_Expression___init__.nd rfl (Or.inl rfl)) (fun _ _ _ _ _ => pts_nil) (fun _ _ _ _ _ => (pe_fldK (K := K) rfl (pv 4) rfl))) pa_nil)) pa_nil)))) rfl)
    (pss_one (ps_fldK (K := K) rfl (pv 0) (pv 3) rfl)))))))), ?_⟩
    have CK := T.exs.cls k
    have cl := CK.ins.cl
    have hlen := hps.len
    have hz : us.length ≤ 10000 := by omega
    have x0 : Ext (L2.del H a) H := (ExtX.rf (a := a)).del
    walk_at "go"
    refine go_lcT tp us (fun _ => .bl true) (fun R r => go_var rfl r) (x0.seqT hS) hz (fun j x H1 hx x1 R hR => ?_) (fun _ => rfl) fun D1 H1 hD1 x1 hL1 => ?_
    · obtain ⟨e, he, hat⟩ := (ExAll.mono (x0.tr x1) ps us hps).at_ hx
      walk_at "go"
      exact go_isiC (hat.isi T.exs) hR
    walk_at "go"
    refine go_all (bs := us.map fun _ => true) (sq_of ?_) ?_
    · rw [List.map_map]
      exact hL1
    rw [all_id (fun j hj => by
      rw [List.getElem?_map, List.getElem?_eq_getElem (by simpa using hj)]
      rfl)]
    have ha1 := x1 _ _ ha
    have n1 := CK.na "own_parts" (by decide)
    have n2 := CK.na "own_size" (by decide)
    have n3 := CK.na "own_levels" (by decide)
    have n4 := CK.na "own_key" (by decide)
    have n5 := CK.na "own_text" (by decide)
    have y1 := x0.tr x1
    walk_at "go"
    have y2 := y1.updD (o := .ins (He.ga K k.cls) dx (putF "own_parts" (.ref tp) []))
    generalize hH2 : upd H1 a (.ins (He.ga K k.cls) dx (putF "own_parts" (.ref tp) [])) = H2 at y2 ⊢
    have ha2 : H2 a = some (.ins (He.ga K k.cls) dx (putF "own_parts" (.ref tp) [])) := by
      rw [← hH2]
      exact upd_same
    refine go_lcI tp us (ps.map fun e => .int e.size) (fun R r => go_var rfl r) (y2.seqT hS) hz (by rw [List.length_map, hlen]) (fun j x y H3 hx hy x3 R hR => ?_) (fun _ => rfl) fun D3 H3 hD3 x3 hL3 => ?_
    · obtain ⟨e, he, hat⟩ := (ExAll.mono (y2.tr x3) ps us hps).at_ hx
      rw [List.getElem?_map, he] at hy
      cases hy
      obtain ⟨b, dx2, tq, ka, vs2, us2, rfl, hb, _⟩ := hat.get
      have clb := (T.exs.cls e.kind).ins.cl
      have nb := (T.exs.cls e.kind).na "own_size" (by decide)
      walk_at "go"
      exact hR
    walk_at "go"
    refine go_sum (ns := ps.map fun e => (e.size : Int)) (sq_of ?_) ?_
    · rw [List.map_map]
      exact hL3
    rw [sum_sizes]
    have ha3 := x3 _ _ ha2
    have y3 := y2.tr x3
    walk_at "gi"
    have y4 := y3.updD (o := .ins (He.ga K k.cls) dx (putF "own_size" (.int (1 + (sizes ps : Int))) (putF "own_parts" (.ref tp) [])))
    generalize hH4 : upd H3 a (.ins (He.ga K k.cls) dx (putF "own_size" (.int (1 + (sizes ps : Int))) (putF "own_parts" (.ref tp) []))) = H4 at y4 ⊢
    have ha4 : H4 a = some (.ins (He.ga K k.cls) dx (putF "own_size" (.int (1 + (sizes ps : Int))) (putF "own_parts" (.ref tp) []))) := by
      rw [← hH4]
      exact upd_same
    have hlv : (Ex.mk k vals ps z).levels = (match ps with | [] => 0 | e :: r => 1 + levelsMax e.levels r) := by
      cases ps <;> rw [Ex.levels]
    have hsz : (Ex.mk k vals ps z).size = 1 + sizes ps := by rw [Ex.size]
    refine go_cut (fun v H6 => v = .int ((Ex.mk k vals ps z).levels : Nat) ∧ Ext H4 H6) (fun R hR => ?_) fun v H6 ⟨hv, x6⟩ => ?_
    · walk_at "go"
      intro p1 hp1
      have x5 : Ext H4 (upd H4 p1 (.tup [])) := Ext.new hp1
      have y5 := y4.tr x5
      have hP1 : upd H4 p1 (.tup []) p1 = some (.tup []) := upd_same
      generalize upd H4 p1 (.tup []) = H5 at x5 y5 hP1 ⊢
      refine .inr (.inr ⟨tp, p1, us, [], rfl, rfl, y5.seqT hS, st_of hP1, .inr rfl, ?_⟩)
      walk_at "go"
      cases ps with
      | nil =>
        rw [hlen]
        rw [show decide (([] : List Ex).length = ([] : List V).length) = true from rfl]
        walk_at "go"
        refine hR _ _ ⟨?_, x5⟩
        rw [hlv]
        rfl
      | cons e r =>
        rw [hlen, decide_eq_false (by simp)]
        walk_at "go"
        refine go_lcI tp us ((e :: r).map fun e => .int e.levels) (fun R r => go_var rfl r) (y5.seqT hS) hz (by rw [List.length_map, hlen]) (fun j x y H6 hx hy x6 R hR => ?_) (fun _ => rfl) fun D6 H6 hD6 x6 hL6 => ?_
        · obtain ⟨e, he, hat⟩ := (ExAll.mono (y5.tr x6) _ us hps).at_ hx
          rw [List.getElem?_map, he] at hy
          cases hy
          obtain ⟨b, dx2, tq, ka, vs2, us2, rfl, hb, _⟩ := hat.get
          have clb := (T.exs.cls e.kind).ins.cl
          have nb := (T.exs.cls e.kind).na "own_levels" (by decide)
          walk_at "go"
          exact hR
        walk_at "go"
        refine go_maxL (sq_of hL6) ?_
        walk_at "go"
        refine hR _ _ ⟨?_, x5.tr x6⟩
        rw [hlv]
        rfl
    subst hv
    have ha6 := x6 _ _ ha4
    have y6 := y4.tr x6
    walk_at "gi"
    have y7 := y6.updD (o := .ins (He.ga K k.cls) dx (putF "own_levels" (.int ((Ex.mk k vals ps z).levels : Nat)) (putF "own_size" (.int (1 + (sizes ps : Int))) (putF "own_parts" (.ref tp) []))))
    have ha7 : upd H6 a (.ins (He.ga K k.cls) dx (putF "own_levels" (.int ((Ex.mk k vals ps z).levels : Nat)) (putF "own_size" (.int (1 + (sizes ps : Int))) (putF "own_parts" (.ref tp) [])))) a = some (.ins (He.ga K k.cls) dx (putF "own_levels" (.int ((Ex.mk k vals ps z).levels : Nat)) (putF "own_size" (.int (1 + (sizes ps : Int))) (putF "own_parts" (.ref tp) [])))) := upd_same
    generalize upd H6 a (.ins (He.ga K k.cls) dx (putF "own_levels" (.int ((Ex.mk k vals ps z).levels : Nat)) (putF "own_size" (.int (1 + (sizes ps : Int))) (putF "own_parts" (.ref tp) [])))) = H7 at y7 ha7 ⊢
    walk_at "go"
    have ez : (40 < 1 + (sizes ps : Int)) ↔ ¬ (Ex.mk k vals ps z).size ≤ 40 := by
      rw [hsz]
      omega
    have el : (6 < (((Ex.mk k vals ps z).levels : Nat) : Int)) ↔ ¬ (Ex.mk k vals ps z).levels ≤ 6 := by omega
    have bad : badA K a E H → ∀ d H', H7 d = none → Ext H7 H' → H' d = some (.xd [("reason", .str "the expression is too large or too deep")]) → E (.ref (He.ga K "BadExpression")) (some d) H' :=
      fun b d H' _ x hd => b d H' (y7.tr x).toX ⟨_, hd⟩
    by_cases c1 : (Ex.mk k vals ps z).size ≤ 40
    case neg =>
      rw [decide_eq_true (ez.mpr c1)]
      rw [if_neg (fun z => c1 z.1)] at hq
      walk_at "gi"
      exact bad hq
    rw [decide_eq_false (fun z => (ez.mp z) c1)]
    walk_at "gi"
    by_cases c2 : (Ex.mk k vals ps z).levels ≤ 6
    case neg =>
      rw [decide_eq_true (el.mpr c2)]
      rw [if_neg (fun z => c2 z.2)] at hq
      walk_at "gi"
      exact bad hq
    rw [decide_eq_false (fun z => (el.mp z) c2)]
    rw [if_pos ⟨c1, c2⟩] at hq
    obtain ⟨ku, hku⟩ := CK.kind
    walk_at "gi"
    refine ⟨a, _, _, _, _, ku, rfl, ha7, cl, hku, rfl, ?_⟩
    walk_at "gi"
    obtain ⟨ks, lk, dk, fk⟩ := hps.keysV
    refine go_lcI tp us ks (fun R r => go_var rfl r) (y7.seqT hS) hz lk (fun j x y H8 hx hy x8 R hR => ?_) (fun _ => rfl) fun D8 H8 hD8 x8 hL8 => ?_
    · obtain ⟨b, dx2, e, fs, rfl, hb, hl⟩ := fk j x y hx hy
      have hb8 := x8 _ _ (y7 _ _ hb)
      have clb := (T.exs.cls e.kind).ins.cl
      have nb := (T.exs.cls e.kind).na "own_key" (by decide)
      walk_at "gi"
      exact ⟨b, _, dx2, fs, y, rfl, hb8, clb, nb, hl, hR⟩
    walk_at "gi"
    refine go_tupL (sq_of hL8) fun l9 hl9 => ?_
    have ha8 := x8 _ _ ha7
    have x9 : Ext H8 (upd H8 l9 (.tup ks)) := Ext.new hl9
    have hl9b : upd H8 l9 (.tup ks) l9 = some (.tup ks) := upd_same
    generalize upd H8 l9 (.tup ks) = H9 at x9 hl9b ⊢
    have ha9 := x9 _ _ ha8
    have y9 := (y7.tr x8).tr x9
    walk_at "gi"
    intro p10 hp10
    have x10 : Ext H9 (upd H9 p10 (.tup [.str k.name, .ref va, .ref l9])) := Ext.new hp10
    have hp10b : upd H9 p10 (.tup [.str k.name, .ref va, .ref l9]) p10 = some (.tup [.str k.name, .ref va, .ref l9]) := upd_same
    generalize upd H9 p10 (.tup [.str k.name, .ref va, .ref l9]) = H10 at x10 hp10b ⊢
    have ha10 := x10 _ _ ha9
    have y10 := y9.tr x10
    walk_at "gi"
    rw [upd_upd]
    have y11 := y10.updD (o := .ins (He.ga K k.cls) dx (exFs tp p10 (Ex.mk k vals ps z).size (Ex.mk k vals ps z).levels z []))
    have na9 : a ≠ l9 := ne_of_none ha8 hl9
    have na10 : a ≠ p10 := ne_of_none ha9 hp10
    refine hq p10 _ y11.toX ?_ ?_
    · rw [upd_same, hsz]
      rfl
    · have e0 : (Ex.mk k vals ps z).key = .tuple [.str k.name, .tuple vals, .tuple (keys ps)] := by rw [Ex.key]
      rw [e0]
      have y12 := y11.side (del_same (H := H) (a := a))
      refine .tup (xs := [.str k.name, .ref va, .ref l9]) (st_of ?_) (.cons (.str _) (.cons (y12.dp hva) (.cons (.tup (xs := ks) (st_of ?_) (y12.dpAll dk)) .nil)))
      · rw [del_ne na10.symm]
        exact upd_keep hp10b na10.symm
      · rw [del_ne na9.symm]
        exact upd_keep (x10 _ _ hl9b) na9.symm
theorem bd_Expression___init__ (T : Tab P K w mg) : Binds K (fdAt K (dp_Expression___init__.pa.at_ K)) ["self", "own_parts", "own_values", "own_text"] [] := T.d_Expression___init__.binds rfl fun _ _ _ _ _ _ _ us hl => match us, hl with | [_, _, _, _], _ => rfl

theorem ok_Expression___eq__ (T : Tab P K w mg) : FnOk P w K mg base (L2.CX P w) 1 (dp_Expression___eq__.pa.at_ K) (fdAt K (dp_Expression___eq__.pa.at_ K)) ["self", "other"] (sp_Expression___eq__ K) := by
  refine fn_mk (d := dp_Expression___eq__) T.d_Expression___eq__ rfl sc_Expression___eq__ (fun vs H Q E h => ?_) fun cdv A outer s H vs Q E hr h => ?_
  · obtain ⟨a, y, e, oe, rfl, he, hy, hq⟩ := h
    rfl
  · obtain ⟨a, y, e, oe, rfl, he, hy, hq⟩ := h
    refine ⟨_, (pss_one (ps_ret (pe_and (pe_callB (call_isiK (K := K) rfl) (by rfl) T.f_isinstance (by decide +kernel) (pa_cons (pv 1) (pa_cons (pe_glob (v := .ref (He.ga K "Expression")) rfl T.g_Expression rfl) pa_nil))) (pe_one (pe_cmpR (op_eqK (K := K) rfl (Room.units hr)) (pe_fldK (K := K) rfl (pv 0) rfl) (pe_fldK (K := K) rfl (pv 1) rfl) (nomark _)))))), ?_⟩
    cases oe with
    | none =>
      walk_at "go"
      refine go_isiC hy ?_
      walk_at "go"
      exact hq
    | some e2 =>
      have i2 := ExAt.isi T.exs hy
      obtain ⟨b, dx, tp, ka, vs, us, eb, hb, _, _, _, hk, hf⟩ := he.get
      obtain ⟨b2, dx2, tp2, ka2, vs2, us2, rfl, hb2, _, _, _, hk2, hf2⟩ := ExAt.get hy
      cases eb
      have cl1 := (T.exs.cls e.kind).ins.cl
      have cl2 := (T.exs.cls e2.kind).ins.cl
      have n1 := (T.exs.cls e.kind).na "own_key" (by decide)
      have n2 := (T.exs.cls e2.kind).na "own_key" (by decide)
      walk_at "go"
      refine go_isiC i2 ?_
      walk_at "go"
      exact go_eqD hk hk2 hf.shaped hf2.shaped hq
theorem bd_Expression___eq__ (T : Tab P K w mg) : Binds K (fdAt K (dp_Expression___eq__.pa.at_ K)) ["self", "other"] [] := T.d_Expression___eq__.binds rfl fun _ _ _ _ _ _ _ us hl => match us, hl with | [_, _], _ => rfl

theorem ok_Literal___init__ (T : Tab P K w mg) : FnOk P w K mg base (L2.CX P w) 6 (dp_Literal___init__.pa.at_ K) (fdAt K (dp_Literal___init__.pa.at_ K)) ["self", "text"] (sp_Literal___init__ K) := by
  refine fn_mkM (d := dp_Literal___init__) T.d_Literal___init__ rfl sc_Literal___init__ T.pm T.opq T.f_super T.isc_Literal (by decide +kernel) (by decide +kernel) (by decide +kernel) (fun _ _ => rfl) ⟨_, rfl, rfl⟩ (fun vs H Q E h => ?_) fun cc cdv A outer s H vs Q E hr SU h => ?_
  · obtain ⟨a, dx, v, rfl, ha, hv, hq⟩ := h
    rfl
  · obtain ⟨a, dx, v, rfl, ha, hv, hq⟩ := h
    refine ⟨_, (pssc_cons (psc_of (ps_if (pt_not (pt_val (pe_fn (ok_is_string T) (hr.mono (by decide)) rfl tk_m (pa_cons (pv 1) (pa_cons pe_int (pa_cons (pe_glob (v := .int 12) rfl T.i_MAX_LITERAL.choose_spec ⟨_, rfl⟩) pa_nil))))))
    (pss_one (ps_raise rfl tk_m (pmk_err (C := He.ga K "BadExpression") (oe_BadExpression T) (hr.mono (by decide)) rfl (pa_cons pe_str pa_nil))))
    pss_nil))
    (pssc_cons (psc_expr (pec_super SU rfl (ok_Expression___init__ T) (hr.mono (by decide)) T.d_Expression___init__.ty T.d_Expression___init__.fnIn (bd_Expression___init__ T) (passes_call tk_m fun _ _ _ _ z => z) (pa_cons (pe_tup pa_nil) (pa_cons (pe_tup (pa_cons (pv 1) pa_nil)) (pa_cons (pe_fn (ok_quoted T) (hr.mono (by decide)) rfl tk_m (pa_cons (pv 1) pa_nil)) pa_nil)))))
    (pssc_of (pss_one (ps_fldK (K := K) rfl (pv 0) (pv 1) rfl))))), ?_⟩
    have CK := T.exs.cls .lit
    have cl := CK.ins.cl
    have nv := CK.na "value" (by decide)
    rcases hv with ⟨x, rfl, hx, hok⟩ | ⟨hi, hne⟩
    case inr =>
      have e0 : isStrIn v 1 12 = false := by
        cases v with
        | str x => exact absurd rfl (hne x)
        | _ => rfl
      have e1 : litO v = none := by
        cases v with
        | str x => exact absurd rfl (hne x)
        | _ => rfl
      rw [e1] at hq
      walk_at "gi"
      refine ⟨v, 1, 12, rfl, .inr ⟨hi, e0⟩, ?_⟩
      rw [e0]
      walk_at "gi"
      exact fun d H' _ y hd => hq d H' y.x ⟨_, hd⟩
    by_cases hc : 1 ≤ x.length ∧ x.length ≤ 12
    case neg =>
      have e0 : isStrIn (.str x) 1 12 = false := by
        unfold isStrIn
        dsimp only
        rw [Bool.and_eq_false_iff, decide_eq_false_iff_not, decide_eq_false_iff_not]
        omega
      have e1 : litO (.str x) = none := if_neg hc
      rw [e1] at hq
      walk_at "gi"
      refine ⟨_, 1, 12, rfl, .inl ⟨x, rfl, hx⟩, ?_⟩
      rw [e0]
      walk_at "gi"
      exact fun d H' _ y hd => hq d H' y.x ⟨_, hd⟩
    have e0 : isStrIn (.str x) 1 12 = true := by
      unfold isStrIn
      dsimp only
      rw [Bool.and_eq_true_iff, decide_eq_true_iff, decide_eq_true_iff]
      omega
    have e1 : litO (.str x) = some (litX x) := if_pos hc
    rw [e1] at hq
    walk_at "gi"
    refine ⟨_, 1, 12, rfl, .inl ⟨x, rfl, hx⟩, ?_⟩
    rw [e0]
    walk_at "gi"
    refine go_sup a _ dx _ rfl ha CK.self CK.sup ?_
    walk_at "gi"
    intro p hp
    walk_at "gi"
    intro p2 hp2
    walk_at "gi"
    refine ⟨x, rfl, by omega, fun H3 x3 => ?_⟩
    walk_at "gi"
    have x1 : Ext H (upd H p (.tup [])) := Ext.new hp
    have x2 : Ext (upd H p (.tup [])) (upd (upd H p (.tup [])) p2 (.tup [.str x])) := Ext.new hp2
    have na : a ≠ p := ne_of_none ha hp
    have na2 : a ≠ p2 := ne_of_none (x1 _ _ ha) hp2
    have hp2p : p ≠ p2 := ne_of_none upd_same hp2
    have hz := quotedS_len x
    refine init_sp (k := .lit) (us := []) (ws := [.str x]) (ps := []) (vals := [.str x]) (x3 _ _ (x2 _ _ (x1 _ _ ha))) (st_of ?_) (by unfold ExAll; rfl) (by decide) (st_of ?_) (.cons (.str x) .nil) ?_ ?_ rfl (fun hf ka H' y h1 mk => ?_) fun hb => ?_
    · rw [del_ne na.symm]
      exact x3 _ _ (upd_keep upd_same hp2p)
    · rw [del_ne na2.symm]
      exact x3 _ _ upd_same
    · rw [leaf_size]
      omega
    · show (PyData.strOk x && true) = true
      rw [hok] <;> rfl
    · walk_at "gi"
      exact hq _ ((((x1.tr x2).tr x3).x.tr y).tr ExtX.upd) (mk _ [("value", .str x)] ExtX.upd.del upd_same rfl)
    · unfold fit at hb
      rw [leaf_size, leaf_levels] at hb
      cases hb
theorem bd_Literal___init__ (T : Tab P K w mg) : Binds K (fdAt K (dp_Literal___init__.pa.at_ K)) ["self", "text"] [] := T.d_Literal___init__.binds rfl fun _ _ _ _ _ _ _ us hl => match us, hl with | [_, _], _ => rfl

theorem ok_AnyChar___init__ (T : Tab P K w mg) : FnOk P w K mg base (L2.CX P w) 6 (dp_AnyChar___init__.pa.at_ K) (fdAt K (dp_AnyChar___init__.pa.at_ K)) ["self"] (sp_AnyChar___init__ K) := by
  refine fn_mkM (d := dp_AnyChar___init__) T.d_AnyChar___init__ rfl sc_AnyChar___init__ T.pm T.opq T.f_super T.isc_AnyChar (by decide +kernel) (by decide +kernel) (by decide +kernel) (fun _ _ => rfl) ⟨_, rfl, rfl⟩ (fun vs H Q E h => ?_) fun cc cdv A outer s H vs Q E hr SU h => ?_
  · obtain ⟨a, dx, rfl, ha, hq⟩ := h
    rfl
  · obtain ⟨a, dx, rfl, ha, hq⟩ := h
    refine ⟨_, (pssc_cons (psc_expr (pec_super SU rfl (ok_Expression___init__ T) (hr.mono (by decide)) T.d_Expression___init__.ty T.d_Expression___init__.fnIn (bd_Expression___init__ T) (passes_call tk_m fun _ _ _ _ z => z) (pa_cons (pe_tup pa_nil) (pa_cons (pe_tup pa_nil) (pa_cons pe_str pa_nil)))))
    (pssc_of pss_nil)), ?_⟩
    have CK := T.exs.cls .any
    walk_at "gi"
    refine go_sup a _ dx _ rfl ha CK.self CK.sup ?_
    walk_at "gi"
    intro p hp
    walk_at "gi"
    intro p2 hp2
    walk_at "gi"
    have x1 : Ext H (upd H p (.tup [])) := Ext.new hp
    have x2 : Ext (upd H p (.tup [])) (upd (upd H p (.tup [])) p2 (.tup [])) := Ext.new hp2
    have na : a ≠ p := ne_of_none ha hp
    have na2 : a ≠ p2 := ne_of_none (x1 _ _ ha) hp2
    have hp2p : p ≠ p2 := ne_of_none upd_same hp2
    refine init_sp (k := .any) (us := []) (ws := []) (ps := []) (vals := []) (x2 _ _ (x1 _ _ ha)) (st_of ?_) (by unfold ExAll; rfl) (by decide) (st_of ?_) .nil ?_ rfl rfl (fun hf ka H' x h1 mk => ?_) fun hb => ?_
    · rw [del_ne na.symm]
      exact upd_keep upd_same hp2p
    · rw [del_ne na2.symm]
      exact upd_same
    · rw [leaf_size]
      decide
    · walk_at "gi"
      exact hq _ ((x1.tr x2).x.tr x) (mk H' [] (ExtX.rf.del) h1 rfl)
    · unfold fit at hb
      rw [leaf_size, leaf_levels] at hb
      cases hb
theorem bd_AnyChar___init__ (T : Tab P K w mg) : Binds K (fdAt K (dp_AnyChar___init__.pa.at_ K)) ["self"] [] := T.d_AnyChar___init__.binds rfl fun _ _ _ _ _ _ _ us hl => match us, hl with | [_], _ => rfl

theorem ok_Repeat___init__ (T : Tab P K w mg) : FnOk P w K mg base (L2.CX P w) 6 (dp_Repeat___init__.pa.at_ K) (fdAt K (dp_Repeat___init__.pa.at_ K)) ["self", "item", "low", "high"] (sp_Repeat___init__ K) := by
  refine fn_mkM (d := dp_Repeat___init__) T.d_Repeat___init__ rfl sc_Repeat___init__ T.pm T.opq T.f_super T.isc_Repeat (by decide +kernel) (by decide +kernel) (by decide +kernel) (fun _ _ => rfl) ⟨_, rfl, rfl⟩ (fun vs H Q E h => ?_) fun cc cdv A outer s H vs Q E hr SU h => ?_
  · obtain ⟨a, dx, v, lo, hi, oe, rfl, ha, hlo, hhi, hv, hq⟩ := h
    rfl
  · obtain ⟨a, dx, v, lo, hi, oe, rfl, ha, hlo, hhi, hv, hq⟩ := h
    refine ⟨_, (pssc_cons (psc_of (ps_expr (pe_fn (ok_need_expressions T) (hr.mono (by decide)) rfl tk_m (pa_cons (pe_tup (pa_cons (pv 1) pa_nil)) pa_nil))))
    (pssc_cons (psc_of (ps_if (pt_not (pt_val (pe_fn (ok_is_integer T) (hr.mono (by decide)) rfl tk_m (pa_cons (pv 2) (pa_cons pe_int (pa_cons (pe_glob (v := .int 20) rfl T.i_MAX_COUNT.choose_spec ⟨_, rfl⟩) pa_nil))))))
    (pss_one (ps_raise rfl tk_m (pmk_err (C := He.ga K "BadExpression") (oe_BadExpression T) (hr.mono (by decide)) rfl (pa_cons pe_str pa_nil))))
    pss_nil))
    (pssc_cons (psc_of (ps_if (PW.pt (pw_and (pt_cmpR op_notN1 (pv 3) pe_non (nomark _)) (pw_and1 (pt_not (pt_val (pe_fn (ok_is_integer T) (hr.mono (by decide)) rfl tk_m (pa_cons (pv 3) (pa_cons (pe_callB (call_max2 rfl) (by rfl) T.f_max (by decide +kernel) (pa_cons pe_int (pa_cons (pv 2) pa_nil))) (pa_cons (pe_glob (v := .int 20) rfl T.i_MAX_COUNT.choose_spec ⟨_, rfl⟩) pa_nil)))))))))
    (pss_one (ps_raise rfl tk_m (pmk_err (C := He.ga K "BadExpression") (oe_BadExpression T) (hr.mono (by decide)) rfl (pa_cons pe_str pa_nil))))
    pss_nil))
    (pssc_cons (psc_expr (pec_super SU rfl (ok_Expression___init__ T) (hr.mono (by decide)) T.d_Expression___init__.ty T.d_Expression___init__.fnIn (bd_Expression___init__ T) (passes_call tk_m fun _ _ _ _ z => z) (pa_cons (pe_tup (pa_cons (pv 1) pa_nil)) (pa_cons (pe_tup (pa_cons (pv 2) (pa_cons (pv 3) pa_nil))) (pa_cons (pe_op (op_addK (K := K) rfl) (pe_fn (ok_grouped T) (hr.mono (by decide)) rfl tk_m (pa_cons (pv 1) (pa_cons (pe_glob (v := .ref (He.ga K "PREFIXED")) rfl T.g_PREFIXED rfl) pa_nil))) (pe_fn (ok_count_text T) (hr.mono (by decide)) rfl tk_m (pa_cons (pv 2) (pa_cons (pv 3) pa_nil)))) pa_nil)))))
    (pssc_of (pss_cons (ps_fldK (K := K) rfl (pv 0) (pv 1) rfl)
    (pss_cons (ps_fldK (K := K) rfl (pv 0) (pv 2) rfl)
    (pss_one (ps_fldK (K := K) rfl (pv 0) (pv 3) rfl))))))))), ?_⟩
    have CK := T.exs.cls .rep
    have cl := CK.ins.cl
    have n1 := CK.na "item" (by decide)
    have n2 := CK.na "low" (by decide)
    have n3 := CK.na "high" (by decide)
    walk_at "gi"
    intro p0 hp0
    have x1 : Ext H (upd H p0 (.tup [v])) := Ext.new hp0
    have hP0 : upd H p0 (.tup [v]) p0 = some (.tup [v]) := upd_same
    generalize upd H p0 (.tup [v]) = H1 at x1 hP0 ⊢
    have y0 : Ext (L2.del H a) H := (ExtX.rf (a := a)).del
    have y1 := y0.tr x1
    have ha1 := x1 _ _ ha
    walk_at "gi"
    cases oe with
    | none =>
      refine ⟨p0, [v], [false], rfl, st_of hP0, rfl, ?_, ?_⟩
      · intro i u b h1 h2 H' x
        cases i with
        | zero =>
          cases h1
          cases h2
          exact hv H' (y1.tr x)
        | succ i => cases h1
      · exact (badA.e hq).ext x1
    | some e =>
    refine ⟨p0, [v], [true], rfl, st_of hP0, rfl, ?_, fun H2 x2 => ?_⟩
    · intro i u b h1 h2 H' x
      cases i with
      | zero =>
        cases h1
        cases h2
        exact ExAt.isi T.exs (hv H' (y1.tr x))
      | succ i => cases h1
    have x02 := x1.tr x2
    have y2 := y1.tr x2
    have ha2 := x2 _ _ ha1
    walk_at "gi"
    refine ⟨lo, 0, 20, rfl, (hlo H2 x02).pre 0 20, ?_⟩
    cases hl : isInt lo 0 20 with
    | false =>
      have e1 : repO (some e) lo hi = none := by
        cases lo with
        | int l =>
          have hn : ¬ (0 ≤ l ∧ l ≤ 20) := by
            simpa [isInt] using hl
          cases hi with
          | non => exact if_neg hn
          | int h => exact if_neg (fun z => hn ⟨z.1, z.2.1⟩)
          | _ => rfl
        | _ => cases hi <;> rfl
      rw [e1] at hq
      walk_at "gi"
      exact fun d H' _ y hd => hq d H' (x02.tr y).x ⟨_, hd⟩
    | true =>
    obtain ⟨l, rfl, hl0, hl1⟩ : ∃ l : Int, lo = .int l ∧ 0 ≤ l ∧ l ≤ 20 := by
      cases lo with
      | int l =>
        have hn : (0 ≤ l ∧ l ≤ 20) := by
          simpa [isInt] using hl
        exact ⟨l, rfl, hn.1, hn.2⟩
      | _ => cases hl
    walk_at "gs"
    have hmx : ∀ h : Int, (if l > 1 then l else 1) ≤ h ↔ 1 ≤ h ∧ l ≤ h := by
      intro h
      split <;> omega
    by_cases hcase : ∃ ho : Option Nat, hi = optV (ho.map Int.ofNat) ∧ ∀ h, ho = some h → 1 ≤ h ∧ l ≤ (h : Int) ∧ h ≤ 20
    case neg =>
      have hne : hi ≠ .non := fun z => hcase ⟨none, z, fun h w => by cases w⟩
      have e2 : isInt hi (if l > 1 then l else 1) 20 = false := by
        cases hi with
        | int h =>
          rw [Bool.eq_false_iff]
          intro z
          have z2 : ((if l > 1 then l else 1) ≤ h) ∧ h ≤ 20 := by simpa [isInt] using z
          have z3 := (hmx h).mp z2.1
          exact hcase ⟨some h.toNat, congrArg V.int (Int.toNat_of_nonneg (by omega)).symm, fun k w => by cases w; omega⟩
        | _ => rfl
      have e1 : repO (some e) (.int l) hi = none := by
        cases hi with
        | non => exact absurd rfl hne
        | int h =>
          refine if_neg fun z => hcase ⟨some h.toNat, congrArg V.int (Int.toNat_of_nonneg (by omega)).symm, fun k w => by cases w; omega⟩
        | _ => rfl
      rw [e1] at hq
      walk_at "gi"
      rw [decide_eq_false hne]
      walk_at "gi"
      refine ⟨1, l, rfl, ?_⟩
      walk_at "gi"
      refine ⟨hi, _, 20, rfl, (hhi H2 x02).pre _ 20, ?_⟩
      rw [e2]
      walk_at "gi"
      exact fun d H' _ y hd => hq d H' (x02.tr y).x ⟨_, hd⟩
    obtain ⟨ho, rfl, hho⟩ := hcase
    refine go_ifF (fun R hR => ?_) fun H3 x3 => ?_
    · cases ho with
      | none =>
        walk_at "gi"
        rw [show decide (optV (Option.map Int.ofNat none) = V.non) = true from rfl]
        walk_at "gi"
        exact hR _ Ext.rf
      | some h =>
        obtain ⟨w1, w2, w3⟩ := hho h rfl
        have e2 : isInt (.int (h : Int)) (if l > 1 then l else 1) 20 = true := by
          unfold isInt
          dsimp only
          rw [Bool.and_eq_true_iff, decide_eq_true_iff, decide_eq_true_iff, hmx]
          omega
        walk_at "gi"
        rw [show decide (optV (Option.map Int.ofNat (some h)) = V.non) = false from rfl]
        walk_at "gi"
        refine ⟨1, l, rfl, ?_⟩
        walk_at "gi"
        refine ⟨.int (h : Int), _, 20, rfl, .inl ⟨_, rfl⟩, ?_⟩
        rw [e2]
        walk_at "gi"
        exact hR _ Ext.rf
    have x03 := x02.tr x3
    have ha3 := x3 _ _ ha2
    have y3 := y2.tr x3
    obtain ⟨ln, rfl⟩ : ∃ ln : Nat, l = (ln : Int) := ⟨l.toNat, by omega⟩
    have e1 : repO (some e) (.int ln) (optV (ho.map Int.ofNat)) = fit (repX e ln (ho.map Int.ofNat)) := by
      cases ho with
      | none => exact if_pos ⟨hl0, hl1⟩
      | some h =>
        obtain ⟨w1, w2, w3⟩ := hho h rfl
        exact if_pos ⟨hl0, hl1, by show (1 : Int) ≤ ((h : Nat) : Int); omega, w2, by show ((h : Nat) : Int) ≤ 20; omega⟩
    rw [e1] at hq
    walk_at "gi"
    refine go_sup a _ dx _ rfl ha3 CK.self CK.sup ?_
    walk_at "gi"
    intro p4 hp4
    have x4 : Ext H3 (upd H3 p4 (.tup [v])) := Ext.new hp4
    have hP4 : upd H3 p4 (.tup [v]) p4 = some (.tup [v]) := upd_same
    have na4 : a ≠ p4 := ne_of_none ha3 hp4
    generalize upd H3 p4 (.tup [v]) = H4 at x4 hP4 ⊢
    have ha4 := x4 _ _ ha3
    walk_at "gi"
    intro p5 hp5
    have x5 : Ext H4 (upd H4 p5 (.tup [.int ln, optV (ho.map Int.ofNat)])) := Ext.new hp5
    have hP5 : upd H4 p5 (.tup [.int ln, optV (ho.map Int.ofNat)]) p5 = some (.tup [.int ln, optV (ho.map Int.ofNat)]) := upd_same
    have na5 : a ≠ p5 := ne_of_none ha4 hp5
    generalize upd H4 p5 (.tup [.int ln, optV (ho.map Int.ofNat)]) = H5 at x5 hP5 ⊢
    have ha5 := x5 _ _ ha4
    have y5 := (y3.tr x4).tr x5
    have he5 := hv H5 y5
    have hf := (ExAll.fits (es := [e]) (vs := [v]) (by unfold ExAll; exact ⟨v, [], rfl, he5, by unfold ExAll; rfl⟩)) e (List.mem_cons_self ..)
    walk_at "gi"
    refine ⟨v, _, prefixed, e, rfl, T.tup_PREFIXED H5, he5, ?_⟩
    walk_at "gi"
    refine ⟨ln, ho, rfl, by omega, fun h w => (hho h w).2.2, fun H6 x6 => ?_⟩
    have gl := groupedS_len (e := e) (ks := prefixed)
    have ft := hf.text
    have fs := hf.size
    have cl2 : (countS ln (ho.map Int.ofNat)).length ≤ 7 := by
      cases ho with
      | none => exact (countS_len (h := 0) (by omega) (by omega)).1
      | some h => exact (countS_len (by omega) (hho h rfl).2.2).2
    refine go_addS ?_ ?_
    · rw [sizeLine_eq]
      omega
    have ha6 := x6 _ _ ha5
    have y6 := y5.tr x6
    have yd := y6.side (del_same (H := H) (a := a))
    walk_at "gi"
    have hsz : (repX e ln (ho.map Int.ofNat)).size = 1 + (e.size + 0) := by
      unfold repX
      rw [Ex.size, sizes, sizes]
    refine init_sp (k := .rep) (us := [v]) (ws := [.int ln, optV (ho.map Int.ofNat)]) (ps := [e]) (vals := [.int ln, optD (ho.map Int.ofNat)]) ha6 (st_of ?_) ?_ (by show 1 ≤ 8; decide) (st_of ?_) (.cons (.int _) (.cons ?_ .nil)) ?_ ?_ ?_ (fun hf ka H' y h1 mk => ?_) fun hb => ?_
    · rw [del_ne na4.symm]
      exact x6 _ _ (x5 _ _ hP4)
    · unfold ExAll
      exact ⟨v, [], rfl, hv _ yd, by unfold ExAll; rfl⟩
    · rw [del_ne na5.symm]
      exact x6 _ _ hP5
    · cases ho with
      | none => exact .non
      | some h => exact .int _
    · show (groupedS e prefixed ++ countS ln (ho.map Int.ofNat)).length + 8 ≤ 300 * (repX e ln (ho.map Int.ofNat)).size
      rw [hsz, strLen_append]
      omega
    · cases ho <;> rfl
    · cases ho <;> rfl
    · walk_at "gi"
      have e9 : fit (repX e ln (ho.map Int.ofNat)) = some (repX e ln (ho.map Int.ofNat)) := hf
      rw [e9] at hq
      refine hq _ ?_ (mk _ [("item", v), ("low", .int ln), ("high", optV (ho.map Int.ofNat))] ?_ upd_same rfl)
      · exact (((((((x03.tr x4).tr x5).tr x6).x.tr y).tr ExtX.upd).tr ExtX.upd).tr ExtX.upd)
      · exact ((ExtX.upd.tr ExtX.upd).tr ExtX.upd).del
    · have e9 : fit (repX e ln (ho.map Int.ofNat)) = none := hb
      rw [e9] at hq
      exact badA.ext hq (((x03.tr x4).tr x5).tr x6).x

theorem kb_Repeat_1_low_high (T : Tab P K w mg) : ∃ mv : List Value, KBn K (fdAt K (dp_Repeat___init__.pa.at_ K)) ["self", "item", "low", "high"] 2 ["low", "high"] (fun us ws => us ++ ws) (fun vs zs => vs ++ zs) :=
  T.d_Repeat___init__.kb rfl 2 ["low", "high"] [] (fun us _ ws => us ++ ws) (fun _ h => by cases h) (fun r1 _ r3 => r1.append r3) fun _ _ _ _ _ _ _ _ us mv ws _ l1 l2 l3 => match us, mv, ws, l1, l2, l3 with
    | [_, _], [], [_, _], _, _, _ => rfl
theorem kb_Repeat_0_high_item_low (T : Tab P K w mg) : ∃ mv : List Value, KBn K (fdAt K (dp_Repeat___init__.pa.at_ K)) ["self", "item", "low", "high"] 1 ["high", "item", "low"] (fun us ws => us ++ (ws.drop 1 ++ ws.take 1)) (fun vs zs => vs ++ (zs.drop 1 ++ zs.take 1)) :=
  T.d_Repeat___init__.kb rfl 1 ["high", "item", "low"] [] (fun us _ ws => us ++ (ws.drop 1 ++ ws.take 1)) (fun _ h => by cases h) (fun r1 _ r3 => r1.append (vals_turn r3)) fun _ _ _ _ _ _ _ _ us mv ws _ l1 l2 l3 => match us, mv, ws, l1, l2, l3 with
    | [_], [], [_, _, _], _, _, _ => rfl
theorem kb_Repeat_1_low (T : Tab P K w mg) : ∃ mv : List Value, KBn K (fdAt K (dp_Repeat___init__.pa.at_ K)) ["self", "item", "low", "high"] 2 ["low"] (fun us ws => us ++ (ws ++ mv)) (fun vs zs => vs ++ (zs ++ [.non])) :=
  T.d_Repeat___init__.kb rfl 2 ["low"] [("high", .non)] (fun us mv ws => us ++ (ws ++ mv)) (fun _ h => by rw [List.mem_singleton.mp h]; exact .tail _ (.head _)) (fun r1 r2 r3 => r1.append (r3.append r2)) fun _ kV Dd _ _ _ _ _ us mv ws hk l1 l2 l3 => match us, mv, ws, l1, l2, l3 with
    | [_, _], [_], [_], _, _, _ => by
      rw [hk (by simp)]
      exact ⟨_, _, _, _, _, _, rfl, rfl, rfl⟩
theorem kb_Repeat_1_high (T : Tab P K w mg) : ∃ mv : List Value, KBn K (fdAt K (dp_Repeat___init__.pa.at_ K)) ["self", "item", "low", "high"] 2 ["high"] (fun us ws => us ++ (mv ++ ws)) (fun vs zs => vs ++ ([.int 0] ++ zs)) :=
  T.d_Repeat___init__.kb rfl 2 ["high"] [("low", .int 0)] (fun us mv ws => us ++ (mv ++ ws)) (fun _ h => by rw [List.mem_singleton.mp h]; exact .head _) (fun r1 r2 r3 => r1.append (r2.append r3)) fun _ kV Dd _ _ _ _ _ us mv ws hk l1 l2 l3 => match us, mv, ws, l1, l2, l3 with
    | [_, _], [_], [_], _, _, _ => by
      rw [hk (by simp)]
      exact ⟨_, _, _, _, _, _, rfl, rfl, rfl⟩
theorem kd_Repeat (T : Tab P K w mg) : ∃ ds : List Value, Vals [.int 0, .non] ds ∧ Binds K (fdAt K (dp_Repeat___init__.pa.at_ K)) ["self", "item", "low", "high"] ds :=
  T.d_Repeat___init__.kd rfl 2 [("low", .int 0), ("high", .non)] (fun _ h => h) rfl fun _ kV Dd _ _ _ _ _ us mv hk l1 l2 => match us, mv, l1, l2 with
    | [_, _], [_, _], _, _ => by
      rw [hk (by simp)]
      exact ⟨_, _, _, _, _, _, rfl, rfl, _, _, _, _, _, _, rfl, rfl, rfl⟩

theorem ok__law_source (T : Tab P K w mg) : GFn P w K mg base "_law_source" 1 ["_law_script", "_law_k"] (sp__law_source K) [] := by
  refine gfn_mk (d := dp__law_source) ?_ T.d__law_source rfl rfl T.g__law_source fun _ _ _ _ _ _ us hl => match us, hl with | [_, _], _ => rfl
  refine fn_mk (d := dp__law_source) T.d__law_source rfl sc__law_source (fun vs H Q E h => ?_) fun cdv A outer s H vs Q E hr h => ?_
  · obtain ⟨a, k, ns, rfl, hS, hk0, hk1, hq⟩ := h
    rfl
  · obtain ⟨a, k, ns, rfl, hS, hk0, hk1, hq⟩ := h
    refine ⟨_, (pss_cons (ps_set (i := 2) sc__law_source.nd rfl (Or.inl rfl) (pe_ifExp (pt_cmpR (op_neK (K := K) rfl (Room.units hr)) (pv 0) (pe_lst pa_nil) (nomark _)) (pe_ix (ix_seqK (K := K) rfl) (pv 0) (pe_op op_modN (pv 1) (pe_callB (call_lenK (K := K) rfl) (by rfl) T.f_len (by decide +kernel) (pa_cons (pv 0) pa_nil))) (fun _ _ => rfl)) pe_int))
    (pss_one (ps_ret (pe_lst (pa_cons (pv 2) (pa_cons (pe_op op_mul pe_int (pv 1)) (pa_cons (pe_ifExp (pt_cmpR op_ge (pv 2) (pe_op op_pow pe_int pe_int) (nomark _)) (pe_op op_fdivW (pv 2) (pe_op op_pow pe_int pe_int)) pe_int) pa_nil))))))), ?_⟩
    walk_at "gs"
    refine go_cut (fun v H1 => (∃ c : Int, v = .int c) ∧ Ext H H1) (fun R hR => ?_) fun v H1 hv => ?_
    · walk_at "go"
      intro p hp
      have x1 : Ext H (upd H p (.lst [])) := Ext.new hp
      refine go_neD (d := .list (ns.map PyData.int)) (e := .list []) (.lst (x1.seqL hS) (dp_ints ns)) (.lst sq_new .nil) (shaped_ints ns) rfl ?_
      rw [eqv_nil]
      by_cases hn : ns = []
      · rw [decide_eq_true hn]
        walk_at "go"
        exact hR _ _ ⟨⟨1, rfl⟩, x1⟩
      · rw [decide_eq_false hn]
        have hl : 1 ≤ ns.length := by
          cases ns with
          | nil => exact absurd rfl hn
          | cons n r => simp
        walk_at "go"
        refine go_lenL (x1.seqL hS) ?_
        rw [List.length_map]
        refine go_rI (show (ns.length : Int) ≠ 0 by omega) ?_
        have hr := fmod_range k (m := (ns.length : Int)) (by omega)
        obtain ⟨j, hj⟩ : ∃ j : Nat, k.fmod (ns.length : Int) = (j : Int) := ⟨(k.fmod (ns.length : Int)).toNat, by omega⟩
        have hjl : j < ns.length := by omega
        rw [hj]
        refine go_ixL (x1.seqL hS) (atI_nat (v := .int (ns[j])) ?_) (hR _ _ ⟨⟨_, rfl⟩, x1⟩)
        rw [List.getElem?_map, List.getElem?_eq_getElem hjl]
        rfl
    obtain ⟨⟨c, rfl⟩, x1⟩ := hv
    walk_at "gs"
    refine go_rI (.inl (by omega)) ?_
    walk_at "gs"
    refine go_cut (fun v H2 => (∃ d : Int, v = .int d) ∧ H2 = H1) (fun R hR => ?_) fun v H2 hv => ?_
    · walk_at "go"
      refine go_rI ⟨by decide, by decide, by decide⟩ ?_
      walk_at "go"
      by_cases hc : (10 : Int) ^ (18 : Int).toNat ≤ c
      · rw [decide_eq_true hc]
        walk_at "go"
        refine go_rI ⟨by decide, by decide, by decide⟩ ?_
        refine go_rI ⟨by decide, by decide⟩ ?_
        exact hR _ _ ⟨⟨_, rfl⟩, rfl⟩
      · rw [decide_eq_false hc]
        walk_at "go"
        exact hR _ _ ⟨⟨_, rfl⟩, rfl⟩
    obtain ⟨⟨d, rfl⟩, rfl⟩ := hv
    walk_at "gs"
    intro p hp
    exact hq c d p _ (x1.free hp) (x1.tr (Ext.new hp)) upd_same

theorem ok__law_next (T : Tab P K w mg) : GFn P w K mg base "_law_next" 1 ["_law_source_here", "_law_many"] (sp__law_next K) [] := by
  refine gfn_mk (d := dp__law_next) ?_ T.d__law_next rfl rfl T.g__law_next fun _ _ _ _ _ _ us hl => match us, hl with | [_, _], _ => rfl
  refine fn_mk (d := dp__law_next) T.d__law_next rfl sc__law_next (fun vs H Q E h => ?_) fun cdv A outer s H vs Q E hr h => ?_
  · obtain ⟨p, m, j, rfl, ⟨c, d, hp, hj0⟩, hj, hm1, hm2, hq⟩ := h
    rfl
  · obtain ⟨p, m, j, rfl, ⟨c, d, hp, hj0⟩, hj, hm1, hm2, hq⟩ := h
    refine ⟨_, (pss_cons (ps_if (pt_cmpR op_gt (pe_ix (ix_seqK (K := K) rfl) (pv 0) pe_int (fun _ _ => rfl)) pe_int (nomark _))
    (pss_cons (ps_set (i := 4) sc__law_next.nd rfl (Or.inl rfl) (pe_op op_modN (pe_ix (ix_seqK (K := K) rfl) (pv 0) pe_int (fun _ _ => rfl)) (pv 1)))
    (pss_cons (ps_asg (pe_op op_fdivN (pe_ix (ix_seqK (K := K) rfl) (pv 0) pe_int (fun _ _ => rfl)) (pv 1)) (pg_sub (pv 0) pe_int set_list))
    (pss_one (ps_ret (pv 4)))))
    pss_nil)
    (pss_cons (ps_asg (pe_op (op_addK (K := K) rfl) (pe_ix (ix_seqK (K := K) rfl) (pv 0) pe_int (fun _ _ => rfl)) pe_int) (pg_sub (pv 0) pe_int set_list))
    (pss_cons (ps_set (i := 2) sc__law_next.nd rfl (Or.inl rfl) (pe_lst (pa_cons pe_int (pa_cons pe_int (pa_cons pe_int (pa_cons pe_int (pa_cons pe_int (pa_cons pe_int (pa_cons pe_int (pa_cons pe_int pa_nil))))))))))
    (pss_cons (ps_set (i := 3) sc__law_next.nd rfl (Or.inl rfl) (pe_ix (ix_seqK (K := K) rfl) (pe_op (op_addK (K := K) rfl) (pv 2) (pe_lst (pa_cons pe_int (pa_cons pe_int (pa_cons pe_int pa_nil))))) (pe_op op_modN (pe_ix (ix_seqK (K := K) rfl) (pv 0) pe_int (fun _ _ => rfl)) pe_int) (fun _ _ => rfl)))
    (pss_one (ps_ret (pe_op op_modN (pe_op op_fdivN (pe_op op_modN (pe_op op_pow (pe_op (op_addK (K := K) rfl) (pe_op (op_addK (K := K) rfl) (pe_op op_modN (pe_ix (ix_seqK (K := K) rfl) (pv 0) pe_int (fun _ _ => rfl)) (pv 3)) (pe_op op_mul pe_int (pe_ix (ix_seqK (K := K) rfl) (pv 0) pe_int (fun _ _ => rfl)))) pe_int) pe_int) (pv 3)) pe_int) (pv 1)))))))), ?_⟩
    walk_at "go"
    refine go_ixL (sq_of hp) rfl ?_
    walk_at "go"
    by_cases hd : 0 < d
    · rw [decide_eq_true hd]
      have hr := fmod_range d hm1
      walk_at "go"
      refine go_ixL (sq_of hp) rfl ?_
      walk_at "go"
      refine go_rI (show m ≠ 0 by omega) ?_
      walk_at "go"
      refine go_ixL (sq_of hp) rfl ?_
      walk_at "go"
      refine go_rI ⟨show m ≠ 0 by omega, show m.natAbs < 1073741824 by omega⟩ ?_
      walk_at "go"
      refine ⟨p, _, 2, 2, rfl, rfl, hp, rfl, ?_⟩
      walk_at "go"
      exact hq _ j _ hr.1 hr.2 (by omega) ExtX.upd ⟨c, _, upd_same, hj0⟩
    · rw [decide_eq_false hd]
      walk_at "go"
      refine go_ixL (sq_of hp) rfl ?_
      walk_at "go"
      refine ⟨p, _, 1, 1, rfl, rfl, hp, rfl, ?_⟩
      walk_at "go"
      obtain ⟨f1, e1, x1, h1⟩ := boxX H p
      rw [← e1]
      intro q1 hq1
      obtain ⟨f2, e2, x2, h2⟩ := box hq1
      rw [← e2]
      have hp1 := h1 (.lst [.int c, .int (j + 1), .int d])
      walk_at "go"
      intro q2 hq2
      obtain ⟨f3, e3, x3, h3⟩ := box hq2
      rw [← e3]
      refine go_addL (x3 _ _ _ (h2 _)) (h3 _) (by rw [sizeLine_eq]; decide) fun q3 hq3 => ?_
      obtain ⟨f4, e4, x4, h4⟩ := box hq3
      rw [← e4]
      have hq3b := h4 (.lst primesV)
      have x14 := ((x2 (.lst [.int 2147483647, .int 2147483629, .int 2147483587, .int 2147483579, .int 2147483563, .int 2147483549, .int 2147483543, .int 2147483497])).tr (x3 (.lst [.int 2147483489, .int 2147483477, .int 2147483423]))).tr (x4 (.lst primesV))
      have hp4 := x14 _ _ hp1
      walk_at "go"
      refine go_ixL (sq_of hp4) rfl ?_
      walk_at "go"
      refine go_rI (by decide) ?_
      have hr := fmod_range (j + 1) (m := 11) (by decide)
      obtain ⟨q, ha, q1, q2⟩ := prime_at _ hr.1 hr.2
      refine go_ixL (sq_of hq3b) ha ?_
      walk_at "go"
      refine go_ixL (sq_of hp4) rfl ?_
      walk_at "go"
      refine go_rI (show q ≠ 0 by omega) ?_
      have hr2 := fmod_range c q1
      walk_at "go"
      refine go_ixL (sq_of hp4) rfl ?_
      walk_at "go"
      refine go_rI (.inl ⟨by decide, by decide⟩) ?_
      walk_at "go"
      refine go_rI ⟨by decide, by decide, by omega⟩ ?_
      walk_at "go"
      refine go_rI (show q ≠ 0 by omega) ?_
      walk_at "go"
      refine go_rI ⟨by decide, by decide⟩ ?_
      walk_at "go"
      refine go_rI (show m ≠ 0 by omega) ?_
      have hr3 := fmod_range ((((c.fmod q + 7919 * (j + 1) + 1) ^ (5 : Int).toNat).fmod q).fdiv 13) hm1
      exact hq _ (j + 1) _ hr3.1 hr3.2 (by omega) ((x1 _).tr x14.x) ⟨c, d, hp4, by omega⟩

theorem ok__law_pick (T : Tab P K w mg) : GFn P w K mg base "_law_pick" 2 ["_law_source_here", "_law_items"] (sp__law_pick K) [] := by
  refine gfn_mk (d := dp__law_pick) ?_ T.d__law_pick rfl rfl T.g__law_pick fun _ _ _ _ _ _ us hl => match us, hl with | [_, _], _ => rfl
  refine fn_mk (d := dp__law_pick) T.d__law_pick rfl sc__law_pick (fun vs H Q E h => ?_) fun cdv A outer s H vs Q E hr h => ?_
  · obtain ⟨p, l, xs, j, rfl, hs, hj, hne, hS, h1, h2, hk, hq⟩ := h
    rfl
  · obtain ⟨p, l, xs, j, rfl, hs, hj, hne, hS, h1, h2, hk, hq⟩ := h
    refine ⟨_, (pss_one (ps_ret (pe_ix (ix_seqK (K := K) rfl) (pv 1) (pe_fn (ok__law_next T) (hr.mono (by decide)) rfl tk_fn (pa_cons (pv 0) (pa_cons (pe_callB (call_lenK (K := K) rfl) (by rfl) T.f_len (by decide +kernel) (pa_cons (pv 1) pa_nil)) pa_nil))) (fun _ _ => rfl)))), ?_⟩
    walk_at "go"
    refine go_lenL hS ?_
    walk_at "go"
    refine ⟨p, _, j, rfl, hs, hj, by omega, by omega, fun r j' H' r0 r1 hj' x hs' => ?_⟩
    walk_at "go"
    obtain ⟨n, rfl⟩ : ∃ n : Nat, r = (n : Int) := ⟨r.toNat, by omega⟩
    have hn : n < xs.length := by omega
    exact go_ixL (hk H' x) (atI_nat (List.getElem?_eq_getElem hn)) (hq _ j' H' (List.getElem_mem hn) hj' x hs')


theorem gv__law_refused_so {X : Cx} (T : Tab P X.K w X.mg) (g : Addr) (cdg : Value) (q : Str) :
    GivesTo2 X ["_law_call_so", "_law_caught", "error"] "_law_refused_so" (defScope s__law_refused_so) g cdg (defBody s__law_refused_so) "_law_call_so" q (TRef (He.ga X.K "BadExpression")) := by
  intro f c' s H Q tl act hc h
  refine ⟨_, (pss_cons (ps_set (i := 1) sc__law_refused_so.nd rfl (Or.inl rfl) pe_non)
    (pss_cons (ps_try_as (i := 2) (c := .ref (He.ga X.K "BadExpression")) (tb := fun W D σ H => σ[0]? = some (some (.ref f)) ∧ H c' = some (LamX.CodeO c' q) ∧ tl (WE W σ) H (fun _ H' => D.nx σ H'))
      rfl rfl sc__law_refused_so.nd rfl rfl ⟨rfl, rfl, .inl T.g_BadExpression⟩ LamX.takes0 (fun W pn xe tk _ => ?hb) (fun a oe cls d pn _ _ => pss_one (ps_set (i := 1) sc__law_refused_so.nd rfl (Or.inl rfl) (pv 2))))
    (pss_one (ps_ret (pe_cmpR op_notN1 (pv 1) pe_non (nomark _)))))), ?hq⟩
  case hb =>
    refine ⟨fun pins s' σ H' D I h' => ?_⟩
    obtain ⟨h1, h2, h3⟩ := h'
    exact (pss_one (ps_expr (act W pn xe _ _ tk))).run pins s' σ H' D I ⟨h1, h2, h3⟩
  case hq =>
    walk_at "go"
    refine ⟨rfl, hc, h _ _ (fun cls d H' ec hq => ?_) fun v H' hq => ?_⟩
    · subst ec
      refine ⟨true, T.exm_BadExpression__BadExpression, fun _ a ha => ?_, fun z => by cases z⟩
      walk_at "go"
      exact hq
    · walk_at "go"
      exact hq

def sp__law_count (K : Frag) : Sp := fun vs H Q _ => ∃ (p : Addr) (j : Int), vs = [.ref p] ∧ Src H p j ∧ j ≤ 1000000 ∧ ∀ v j' H', j' ≤ j + 1 → ExtX p H H' → Src H' p j' → (∀ H'', ExtNX p H' H'' → IntIs K H'' v) → Q v H'
theorem ok__law_count (T : Tab P K w mg) : GFn P w K mg base "_law_count" 3 ["_law_source_here"] (sp__law_count K) [] := by
  refine gfn_mk (d := dp__law_count) ?_ T.d__law_count rfl rfl T.g__law_count fun _ _ _ _ _ _ us hl => match us, hl with | [_], _ => rfl
  refine fn_mk (d := dp__law_count) T.d__law_count rfl sc__law_count (fun vs H Q E h => ?_) fun cdv A outer s H vs Q E hr h => ?_
  · obtain ⟨p, j, rfl, hs, hj, hq⟩ := h
    rfl
  · obtain ⟨p, j, rfl, hs, hj, hq⟩ := h
    refine ⟨_, (pss_cons (ps_set (i := 1) sc__law_count.nd rfl (Or.inl rfl) (pe_lst (pa_cons pe_int (pa_cons pe_int (pa_cons pe_int (pa_cons pe_int (pa_cons pe_int (pa_cons pe_int (pa_cons pe_int (pa_cons pe_int (pa_cons (pe_un un_neg pe_int) (pa_cons (pe_op op_pow pe_int pe_int) (pa_cons pe_bl (pa_cons pe_bl (pa_cons pe_str (pa_cons (pe_tup (pa_cons pe_int pa_nil)) (pa_cons (pe_lst (pa_cons pe_int pa_nil)) (pa_cons pe_dnewK (pa_cons pe_non (pa_cons pe_str pa_nil))))))))))))))))))))
    (pss_one (ps_ret (pe_fn (ok__law_pick T) (hr.mono (by decide)) rfl tk_fn (pa_cons (pv 0) (pa_cons (pv 1) pa_nil)))))), ?_⟩
    obtain ⟨cs, ds, hp, hj0⟩ := hs
    walk_at "go"
    refine go_rI ⟨by decide, by decide, by decide⟩ ?_
    walk_at "go"
    intro q1 hq1
    obtain ⟨f1, e1, x1, h1⟩ := box hq1
    rw [← e1]
    have n1 : p ≠ q1 := ne_of_none hp hq1
    walk_at "go"
    intro q2 hq2
    obtain ⟨f2, e2, x2, h2⟩ := box hq2
    rw [← e2]
    have n2 : p ≠ q2 := ne_of_none (x1 _ _ _ hp) hq2
    walk_at "go"
    intro q3 hq3
    obtain ⟨f3, e3, x3, h3⟩ := box hq3
    rw [← e3]
    have n3 : p ≠ q3 := ne_of_none (x2 _ _ _ (x1 _ _ _ hp)) hq3
    walk_at "go"
    intro l hl
    obtain ⟨f4, e4, x4, h4⟩ := box hl
    rw [← e4]
    have n4 : p ≠ l := ne_of_none (x3 _ _ _ (x2 _ _ _ (x1 _ _ _ hp))) hl
    walk_at "go"
    refine ⟨p, l, _, j, rfl, ⟨cs, ds, x4 _ _ _ (x3 _ _ _ (x2 _ _ _ (x1 _ _ _ hp))), hj0⟩, hj, n4.symm, sq_of (h4 _), by show (1 : Nat) ≤ 18; decide, by show (18 : Nat) ≤ 100000; decide, fun H' x => sq_of (x _ _ n4.symm (h4 _)), fun v j' H' hv hj' x hs' => ?_⟩
    have a1 := x4 (.lst [.int 0, .int 1, .int 2, .int 3, .int 10, .int 19, .int 20, .int 21, .int (-1), .int (10 ^ (30 : Int).toNat), .bl true, .bl false, .str "1", .ref q1, .ref q2, .ref q3, .non, .str ""]) _ _ (x3 (.dK []) _ _ (x2 (.lst [.int 1]) _ _ (h1 (.tup [.int 1]))))
    have a2 := x4 (.lst [.int 0, .int 1, .int 2, .int 3, .int 10, .int 19, .int 20, .int 21, .int (-1), .int (10 ^ (30 : Int).toNat), .bl true, .bl false, .str "1", .ref q1, .ref q2, .ref q3, .non, .str ""]) _ _ (x3 (.dK []) _ _ (h2 (.lst [.int 1])))
    have a3 := x4 (.lst [.int 0, .int 1, .int 2, .int 3, .int 10, .int 19, .int 20, .int 21, .int (-1), .int (10 ^ (30 : Int).toNat), .bl true, .bl false, .str "1", .ref q1, .ref q2, .ref q3, .non, .str ""]) _ _ (h3 (.dK []))
    refine hq v j' H' hj' (((((x1 _).tr (x2 _)).tr (x3 _)).tr (x4 _)).x.tr x) hs' fun H'' y => ?_
    have b1 := y _ _ n1.symm (x _ _ n1.symm a1) (fun ps z => by cases z)
    have b2 := y _ _ n2.symm (x _ _ n2.symm a2) (fun ps z => by cases z)
    have b3 := y _ _ n3.symm (x _ _ n3.symm a3) (fun ps z => by cases z)
    simp only [List.mem_cons, List.not_mem_nil, or_false] at hv
    rcases hv with rfl | rfl | rfl | rfl | rfl | rfl | rfl | rfl | rfl | rfl | rfl | rfl | rfl | rfl | rfl | rfl | rfl | rfl
    all_goals first
      | exact .inl ⟨_, rfl⟩
      | exact .inr (.inl ⟨_, rfl⟩)
      | exact .inr (.inr ⟨Isi.str_int _, fun i z => by cases z⟩)
      | exact .inr (.inr ⟨⟨_, .base .non, kit_ty (by decide +kernel)⟩, fun i z => by cases z⟩)
      | exact .inr (.inr ⟨⟨_, .base (.tup b1), kit_ty (by decide +kernel)⟩, fun i z => by cases z⟩)
      | exact .inr (.inr ⟨⟨_, .base (.lst b2), kit_ty (by decide +kernel)⟩, fun i z => by cases z⟩)
      | exact .inr (.inr ⟨⟨_, .base (.dK b3), kit_ty (by decide +kernel)⟩, fun i z => by cases z⟩)

def sp__law_is_count (K : Frag) : Sp := fun vs H Q _ => ∃ (v : V) (lo : Int), vs = [v, .int lo] ∧ IntIs K H v ∧ Q (.bl (isInt v lo 20)) H
theorem ok__law_is_count (T : Tab P K w mg) : GFn P w K mg base "_law_is_count" 1 ["_law_number", "_law_least"] (sp__law_is_count K) [] := by
  refine gfn_mk (d := dp__law_is_count) ?_ T.d__law_is_count rfl rfl T.g__law_is_count fun _ _ _ _ _ _ us hl => match us, hl with | [_, _], _ => rfl
  refine fn_mk (d := dp__law_is_count) T.d__law_is_count rfl sc__law_is_count (fun vs H Q E h => ?_) fun cdv A outer s H vs Q E hr h => ?_
  · obtain ⟨v, lo, rfl, hv, hq⟩ := h
    rfl
  · obtain ⟨v, lo, rfl, hv, hq⟩ := h
    refine ⟨_, (pss_one (ps_ret (pe_and (pe_callB (call_isiK (K := K) rfl) (by rfl) T.f_isinstance (by decide +kernel) (pa_cons (pv 0) (pa_cons (pe_bltn (v := .ty "int") (u := .type "int") rfl T.f_int (by decide +kernel) rfl) pa_nil))) (pe_and (pe_not (pe_callB (call_isiK (K := K) rfl) (by rfl) T.f_isinstance (by decide +kernel) (pa_cons (pv 0) (pa_cons (pe_bltn (v := .ty "bool") (u := .type "bool") rfl T.f_bool (by decide +kernel) rfl) pa_nil)))) (pe_one (pe_chain op_le op_le (pv 1) (pv 0) pe_int)))))), ?_⟩
    rcases hv.pre lo 20 with ⟨i, rfl⟩ | ⟨b, rfl⟩ | ⟨hv, e⟩
    · walk_at "go"
      by_cases h1 : lo ≤ i
      · have e : isInt (.int i) lo 20 = decide (i ≤ 20) := by simp [isInt, h1]
        rw [e] at hq
        rw [decide_eq_true h1]
        walk_at "go"
        exact hq
      · have e : isInt (.int i) lo 20 = false := by simp [isInt, h1]
        rw [e] at hq
        rw [decide_eq_false h1]
        walk_at "go"
        exact hq
    · walk_at "go"
      exact hq
    · walk_at "go"
      rw [e] at hq
      exact hq

def sp__law_right (K : Frag) : Sp := fun vs H Q _ => ∃ (lo hi : V), vs = [lo, hi] ∧ LamX.Tabs (tabsQ K lms) H ∧ (∀ H', LamX.ExtN H H' → IntIs K H' lo) ∧ (∀ H', LamX.ExtN H H' → IntIs K H' hi) ∧ ∀ H', LamX.ExtN H H' → LamX.Tabs (tabsQ K lms) H' → Q (.bl true) H'
/-- will Repeat take the counts? -/
def goodB (lo hi : V) : Bool := (repO (some (litX "a")) lo hi).isSome
theorem fit_rep (l : Int) (h : Option Int) : fit (repX (litX "a") l h) = some (repX (litX "a") l h) := by
  unfold fit
  have e1 : (repX (litX "a") l h).size = 2 := by
    unfold repX litX
    rw [Ex.size, sizes, sizes, Ex.size, sizes]
  have e2 : (repX (litX "a") l h).levels = 1 := by
    unfold repX litX
    rw [Ex.levels, levelsMax, Ex.levels]
  rw [e1, e2] <;> rfl
theorem good_no {lo hi : V} (h : isInt lo 0 20 = false) : goodB lo hi = false := by
  unfold goodB
  cases lo with
  | int l =>
    have hn : ¬ (0 ≤ l ∧ l ≤ 20) := by
      simpa [isInt] using h
    cases hi with
    | non => rw [show repO (some (litX "a")) (.int l) .non = none from if_neg hn] <;> rfl
    | int k => rw [show repO (some (litX "a")) (.int l) (.int k) = none from if_neg (fun z => hn ⟨z.1, z.2.1⟩)] <;> rfl
    | _ => rfl
  | _ => cases hi <;> rfl
theorem good_non {l : Int} (h : isInt (.int l) 0 20 = true) : goodB (.int l) .non = true := by
  unfold goodB
  have hn : (0 ≤ l ∧ l ≤ 20) := by
    simpa [isInt] using h
  rw [show repO (some (litX "a")) (.int l) .non = fit (repX (litX "a") l none) from if_pos hn, fit_rep] <;> rfl
theorem good_int {l : Int} {hi : V} (h : isInt (.int l) 0 20 = true) (n : hi ≠ .non) : goodB (.int l) hi = (isInt hi 1 20 && match hi with | .int k => decide (l ≤ k) | _ => false) := by
  unfold goodB
  have hn : (0 ≤ l ∧ l ≤ 20) := by
    simpa [isInt] using h
  cases hi with
  | non => exact absurd rfl n
  | int k =>
    by_cases c : 1 ≤ k ∧ l ≤ k ∧ k ≤ 20
    · rw [show repO (some (litX "a")) (.int l) (.int k) = fit (repX (litX "a") l (some k)) from if_pos ⟨hn.1, hn.2, c⟩, fit_rep]
      simp [isInt, c]
    · rw [show repO (some (litX "a")) (.int l) (.int k) = none from if_neg (fun z => c z.2.2)]
      simp [isInt]
      omega
  | _ => rfl
theorem repO_inv {lo hi : V} {e : Ex} (h : repO (some (litX "a")) lo hi = some e) : ∃ (l : Nat) (ho : Option Nat), lo = .int l ∧ hi = optV (ho.map Int.ofNat) ∧ e = repX (litX "a") l (ho.map Int.ofNat) ∧ l ≤ 20 ∧ ∀ k, ho = some k → k ≤ 20 := by
  cases lo with
  | int l =>
    cases hi with
    | non =>
      by_cases c : 0 ≤ l ∧ l ≤ 20
      · rw [show repO (some (litX "a")) (.int l) .non = fit (repX (litX "a") l none) from if_pos c, fit_rep] at h
        obtain ⟨n, rfl⟩ : ∃ n : Nat, l = (n : Int) := ⟨l.toNat, by omega⟩
        cases h
        exact ⟨n, none, rfl, rfl, rfl, by omega, fun k z => by cases z⟩
      · rw [show repO (some (litX "a")) (.int l) .non = none from if_neg c] at h
        cases h
    | int k =>
      by_cases c : 0 ≤ l ∧ l ≤ 20 ∧ 1 ≤ k ∧ l ≤ k ∧ k ≤ 20
      · rw [show repO (some (litX "a")) (.int l) (.int k) = fit (repX (litX "a") l (some k)) from if_pos c, fit_rep] at h
        obtain ⟨n, rfl⟩ : ∃ n : Nat, l = (n : Int) := ⟨l.toNat, by omega⟩
        obtain ⟨m, rfl⟩ : ∃ m : Nat, k = (m : Int) := ⟨k.toNat, by omega⟩
        cases h
        exact ⟨n, some m, rfl, rfl, rfl, by omega, fun k z => by cases z; omega⟩
      · rw [show repO (some (litX "a")) (.int l) (.int k) = none from if_neg c] at h
        cases h
    | _ => cases h
  | _ => cases hi <;> cases h
theorem pair_shown {l : Nat} {ho : Option Nat} (hl : l ≤ 20) (hh : ∀ k, ho = some k → k ≤ 20) : (PyData.list [.int l, optD (ho.map Int.ofNat)]).showable = true ∧ (PyData.list [.int l, optD (ho.map Int.ofNat)]).shown.length ≤ 100 ∧ (PyData.list [.int l, optD (ho.map Int.ofNat)]).hasDict = false ∧ (PyData.list [.int l, optD (ho.map Int.ofNat)]).depth ≤ 60 := by
  have a : ∀ (i : Fin 21) (j : Fin 21), (PyData.list [.int (i.val : Nat), .int (j.val : Nat)]).showable = true ∧ (PyData.list [.int (i.val : Nat), .int (j.val : Nat)]).shown.length ≤ 100 ∧ (PyData.list [.int (i.val : Nat), .int (j.val : Nat)]).hasDict = false ∧ (PyData.list [.int (i.val : Nat), .int (j.val : Nat)]).depth ≤ 60 := by decide +kernel
  have b : ∀ (i : Fin 21), (PyData.list [.int (i.val : Nat), .none]).showable = true ∧ (PyData.list [.int (i.val : Nat), .none]).shown.length ≤ 100 ∧ (PyData.list [.int (i.val : Nat), .none]).hasDict = false ∧ (PyData.list [.int (i.val : Nat), .none]).depth ≤ 60 := by decide +kernel
  cases ho with
  | none => exact b ⟨l, by omega⟩
  | some k => exact a ⟨l, by omega⟩ ⟨k, by have := hh k rfl; omega⟩
theorem ok__law_right (T : Tab P K w mg) (TB : ∀ p ∈ tabsK K lms, LamX.TabB base mg p.1 p.2) : GFnG P w K mg base "_law_right" 12 ["_law_least", "_law_most"] (sp__law_right K) [] := by
  refine gfn_mkG (d := dp__law_right) ?_ T.d__law_right rfl rfl T.g__law_right fun _ _ _ _ _ _ us hl => match us, hl with | [_, _], _ => rfl
  refine fn_mkGT (d := dp__law_right) T.d__law_right rfl sc__law_right (fun vs H Q E h => ?_) fun cdv hcd A outer hgd s H vs Q E hr h => ?_
  · obtain ⟨lo, hi, rfl, hT, hlo, hhi, hq⟩ := h
    rfl
  · obtain ⟨lo, hi, rfl, hT, hlo, hhi, hq⟩ := h
    refine ⟨_, (pss_cons (ps_set (i := 2) sc__law_right.nd rfl (Or.inr rfl) (pe_make (T.exs.cls .lit).mks (ok_Literal___init__ T) (hr.mono (by decide)) rfl T.g_Literal (bd_Literal___init__ T) .nil (passes_call tk_fn fun _ _ _ _ z => z) (pa_cons pe_str pa_nil)))
    (pss_cons (ps_set (i := 3) sc__law_right.nd rfl (Or.inl rfl) (pe_and (pe_fn (ok__law_is_count T) (hr.mono (by decide)) rfl tk_fn (pa_cons (pv 0) (pa_cons pe_int pa_nil))) (pe_one (pe_or (pe_cmpR op_isN1 (pv 1) pe_non (nomark _)) (pe_one (pe_and (pe_fn (ok__law_is_count T) (hr.mono (by decide)) rfl tk_fn (pa_cons (pv 1) (pa_cons pe_int pa_nil))) (pe_one (pe_cmpR op_ge (pv 1) (pv 0) (nomark _)))))))))
    (pss_cons (ps_if (pt_not (pt_val (pv 3)))
    (pss_one (ps_ret (pe_lamD (k := 8) (T := tabsQ K lms) (TT := TRef (He.ga K "BadExpression")) (d := dp__law_refused_so) (Ng := ["_law_call_so", "_law_caught", "error"]) T.d__law_refused_so rfl rfl rfl rfl T.g__law_refused_so (fun _ _ _ _ _ _ us hl => match us, hl with | [_], _ => rfl) sc__law_refused_so rfl (Or.inl rfl) (fun cdg => gv__law_refused_so T _ cdg _) (TB (codeOf K dp__law_right, tabOf K dp__law_right) (.head _)) (hcd.symm.trans T.lam__law_right) (.head _) (hu_lam__law_right T) (hr.mono (by decide)) (LamX.lamS_by (by show LamX.lamSB (defScope s__law_right) _ = true; decide +kernel)) rfl (fun _ _ _ _ _ => rfl) (fun _ _ _ _ _ _ _ hrl => (pe_makeK (T.exs.cls .rep).mks (ok_Repeat___init__ T) (hrl.mono (by decide)) rfl T.g_Repeat (kb_Repeat_1_low_high T).choose_spec (passes_call tk_lam fun _ _ _ _ z => z) (pa_cons (pv 2) pa_nil) (pk_cons (pv 0) (pk_cons (pv 1) pk_nil)))))))
    pss_nil)
    (pss_cons (ps_for po_fn rfl (pi_tupK (K := K) rfl (pe_tup (pa_cons (pe_makeK (T.exs.cls .rep).mks (ok_Repeat___init__ T) (hr.mono (by decide)) rfl T.g_Repeat (kb_Repeat_1_low_high T).choose_spec (passes_call tk_fn fun _ _ _ _ z => z) (pa_cons (pv 2) pa_nil) (pk_cons (pv 0) (pk_cons (pv 1) pk_nil))) (pa_cons (pe_makeK0 (T.exs.cls .rep).mks (ok_Repeat___init__ T) (hr.mono (by decide)) rfl T.g_Repeat (kb_Repeat_0_high_item_low T).choose_spec (passes_call tk_fn fun _ _ _ _ z => z) (pk_cons (pv 1) (pk_cons (pv 2) (pk_cons (pv 0) pk_nil)))) pa_nil)))) (pg_name (i := 4) sc__law_right.nd rfl (Or.inl rfl))
    (pss_one (ps_if (PW.pt (pw_or (pt_cmpR (op_neO (ok_Expression___eq__ T) (hr.mono (by decide)) (bd_Expression___eq__ T) (passes_call tk_fn fun _ _ _ _ z => z)) (pe_fldK (K := K) rfl (pv 4) rfl) (pv 2) (nomark _)) (pw_or1 (pt_cmpR (op_neK (K := K) rfl (Room.units hr)) (pe_callB (call_reprD hgd (Room.units hr)) (by rfl) T.f_repr (by decide +kernel) (pa_cons (pe_lst (pa_cons (pe_fldK (K := K) rfl (pv 4) rfl) (pa_cons (pe_fldK (K := K) rfl (pv 4) rfl) pa_nil))) pa_nil)) (pe_callB (call_reprD hgd (Room.units hr)) (by rfl) T.f_repr (by decide +kernel) (pa_cons (pe_lst (pa_cons (pv 0) (pa_cons (pv 1) pa_nil))) pa_nil)) (nomark _)))))
    (pss_one (ps_ret pe_bl))
    pss_nil)))
    (pss_one (ps_ret pe_bl)))))), ?_⟩
    walk_at "gs"
    refine lit_at (.str "a") (fun _ => rfl) (fun H' _ => .inl ⟨"a", rfl, by rw [sizeLine_eq]; decide, by decide +kernel⟩) ?_
    refine fun a1 H1 hn1 x1 he1 => ?_
    iterate 3 walk_at "sj"
    have n1 := LamX.ExtN.of x1
    have hlo1 : IntIs K H1 lo := hlo H1 n1
    have hhi1 : IntIs K H1 hi := hhi H1 n1
    refine go_cut (fun v H2 => v = .bl (goodB lo hi) ∧ H2 = H1) (fun R hR => ?_) fun v H2 hv => ?_
    · walk_at "gs"
      refine ⟨lo, 0, rfl, hlo1, ?_⟩
      cases h1 : isInt lo 0 20 with
      | false =>
        walk_at "gs"
        exact hR _ _ ⟨by rw [good_no h1], rfl⟩
      | true =>
        obtain ⟨l, rfl⟩ : ∃ l, lo = .int l := by
          cases lo with
          | int l => exact ⟨l, rfl⟩
          | _ => cases h1
        walk_at "gs"
        by_cases hz : hi = .non
        · subst hz
          rw [show decide (V.non = V.non) = true from rfl]
          walk_at "gs"
          exact hR _ _ ⟨by rw [good_non h1], rfl⟩
        · rw [decide_eq_false hz]
          walk_at "gs"
          refine ⟨hi, 1, rfl, hhi1, ?_⟩
          have eg := good_int h1 hz
          cases h2 : isInt hi 1 20 with
          | false =>
            rw [h2] at eg
            walk_at "gs"
            exact hR _ _ ⟨by rw [eg]; rfl, rfl⟩
          | true =>
            rw [h2] at eg
            obtain ⟨k, rfl⟩ : ∃ k, hi = .int k := by
              cases hi with
              | int k => exact ⟨k, rfl⟩
              | _ => cases h2
            walk_at "gs"
            exact hR _ _ ⟨by rw [eg]; rfl, rfl⟩
    obtain ⟨rfl, rfl⟩ := hv
    have T1 := hT.ext x1
    walk_at "gs"
    cases hg : goodB lo hi with
    | false =>
      walk_at "gi"
      refine ⟨T1, fun H3 y3 T3 => fun E2 R hE hR => ?_⟩
      walk_at "gs"
      have e0 : repO (some (litX "a")) lo hi = none := by
        cases hr : repO (some (litX "a")) lo hi with
        | none => rfl
        | some z =>
          rw [goodB, hr] at hg
          cases hg
      refine ⟨rfl, rfl, rep_at (.ref a1) lo hi (some (litX "a")) (fun _ => rfl) (fun H' y => hlo H' ((n1.trans y3).trans (.of y))) (fun H' y => hhi H' ((n1.trans y3).trans (.of y))) (fun H' y => ExtN.ex (y3.trans (.of y)) he1) ?_⟩
      rw [e0]
      exact fun d H' y r => hE _ _ _ rfl (hq H' ((n1.trans y3).trans (.of y)) (T3.ext y))
    | true =>
      obtain ⟨e, e0⟩ : ∃ e, repO (some (litX "a")) lo hi = some e := Option.isSome_iff_exists.mp hg
      walk_at "gi"
      refine go_for ?_
      walk_at "gs"
      refine ⟨rfl, rfl, rep_at (.ref a1) lo hi (some (litX "a")) (fun _ => rfl) (fun H' y => hlo H' (n1.trans (.of y))) (fun H' y => hhi H' (n1.trans (.of y))) (fun H' y => ExAt.mono y _ _ he1) ?_⟩
      rw [e0]
      refine fun b1 H3 _ x3 hb1 => ?_
      walk_at "gs"
      refine ⟨rfl, rfl, rep_at (.ref a1) lo hi (some (litX "a")) (fun _ => rfl) (fun H' y => hlo H' ((n1.trans (.of x3)).trans (.of y))) (fun H' y => hhi H' ((n1.trans (.of x3)).trans (.of y))) (fun H' y => ExAt.mono (x3.tr y) _ _ he1) ?_⟩
      rw [e0]
      refine fun b2 H4 _ x4 hb2 => ?_
      walk_at "gs"
      intro q hq0
      obtain ⟨f5, e5, x5, h5⟩ := box hq0
      rw [← e5]
      have x45 := x4.tr (x5 (.tup [.ref b1, .ref b2]))
      refine ⟨q, rfl, ⟨_, st_of (h5 _)⟩, for_tup (xs := [.ref b1, .ref b2]) (fun n σ H' => Ext (f5 (.tup [.ref b1, .ref b2])) H' ∧ ∃ o, σ = [some lo, some hi, some (.ref a1), some (.bl true), o]) ⟨Ext.rf, _, rfl⟩ (fun n σ H' _ p => p.1.seqT (st_of (h5 _))) (fun n x σ H' hx p => ?_) fun σ H' p => ?_⟩
      · obtain ⟨x6, o, rfl⟩ := p
        obtain ⟨b, rfl, hb⟩ : ∃ b, x = .ref b ∧ ExAt K H' e (.ref b) := by
          match n, hx with
          | 0, hx => cases hx; exact ⟨b1, rfl, ExAt.mono (x45.tr x6) _ _ hb1⟩
          | 1, hx => cases hx; exact ⟨b2, rfl, ExAt.mono ((x5 _).tr x6) _ _ hb2⟩
        have ha := ExAt.mono ((x3.tr x45).tr x6) _ _ he1
        obtain ⟨l, ho, rfl, rfl, rfl, hl20, hh20⟩ := repO_inv e0
        obtain ⟨b', dx, tp, ka, vs, us, eb, hbo, hS, hps, hvs, _, _⟩ := hb.get
        cases eb
        obtain ⟨pi, rfl, hpi⟩ : ∃ pi, vs = [pi] ∧ ExAt K H' (litX "a") pi := by
          unfold repX Ex.parts ExAll at hps
          obtain ⟨v, rs, h1, h2, h3⟩ := hps
          unfold ExAll at h3
          subst h3
          exact ⟨v, h1, h2⟩
        have hus : us = [.int l, optV (ho.map Int.ofNat)] := by
          unfold repX Ex.vals at hvs
          cases hvs with
          | cons h1 h2 =>
            cases h2 with
            | cons h3 h4 =>
              cases h4
              cases h1
              cases ho with
              | none => cases h3; rfl
              | some k => cases h3; rfl
        subst hus
        obtain ⟨ai, dxi, tpi, kai, vsi, usi, rfl, hai, _, _, _, _, hfi⟩ := hpi.get
        have clr := (T.exs.cls .rep).ins.cl
        have m1 := (T.exs.cls .rep).na "item" (by decide)
        have m2 := (T.exs.cls .rep).na "low" (by decide)
        have m3 := (T.exs.cls .rep).na "high" (by decide)
        obtain ⟨aj, dxj, tpj, kaj, vsj, usj, ej, haj, _⟩ := ha.get
        cases ej
        walk_at "gi"
        refine ⟨ai, _, dxi, _, _, rfl, hai, (T.exs.cls .lit).eq, (T.exs.cls .lit).ins.ty haj, (T.exs.cls .lit).nf .lit, ⟨ai, .ref a1, litX "a", some (litX "a"), rfl, hpi, ha, ⟨true, congrArg V.bl (PySem.SeqAt.eqv_refl _ hfi.lay), ?_⟩⟩⟩
        obtain ⟨r1, r2, r3, r4⟩ := pair_shown hl20 hh20
        have dv : Dp K H' (optV (ho.map Int.ofNat)) (optD (ho.map Int.ofNat)) := by
          cases ho with
          | none => exact .non
          | some k => exact .int _
        have r5 : (PyData.list [.int l, optD (ho.map Int.ofNat)]).shown.length ≤ sizeLine := by
          rw [sizeLine_eq]
          omega
        walk_at "gi"
        intro q1 hq1
        obtain ⟨f7, e7, x7, h7⟩ := box hq1
        rw [← e7]
        walk_at "gi"
        refine ⟨q1, _, rfl, .lst (sq_of (h7 _)) (.cons (.int _) (.cons ((x7 _).dp dv) .nil)), r3, r1, r4, r5, ?_⟩
        walk_at "gi"
        intro q2 hq2
        obtain ⟨f8, e8, x8, h8⟩ := box hq2
        rw [← e8]
        walk_at "gi"
        refine ⟨q2, _, rfl, .lst (sq_of (h8 _)) (.cons (.int _) (.cons (((x7 _).tr (x8 _)).dp dv) .nil)), r3, r1, r4, r5, ?_⟩
        walk_at "gi"
        rw [decide_eq_true rfl]
        walk_at "gi"
        exact ⟨(x6.tr (x7 _)).tr (x8 _), _, rfl⟩
      · obtain ⟨x6, o, rfl⟩ := p
        walk_at "gi"
        exact hq H' (n1.trans (.of ((x3.tr x45).tr x6))) (T1.ext ((x3.tr x45).tr x6))

def sp_law (K : Frag) : Sp := fun vs H Q _ => ∃ (a : Addr) (ns : List Int), vs = [.ref a] ∧ LamX.Tabs (tabsQ K lms) H ∧ SqL K H a (ns.map V.int) ∧ ns.length ≤ 63 ∧ ∀ H', Q (.bl true) H'
def anyX : Ex := .mk .any [] [] "."
theorem fit_any (l : Int) (h : Option Int) : fit (repX anyX l h) = some (repX anyX l h) := by
  unfold fit
  have e1 : (repX anyX l h).size = 2 := by
    unfold repX anyX
    rw [Ex.size, sizes, sizes, Ex.size, sizes]
  have e2 : (repX anyX l h).levels = 1 := by
    unfold repX anyX
    rw [Ex.levels, levelsMax, Ex.levels]
  rw [e1, e2] <;> rfl
theorem rep_get {K : Frag} {H : Hp} {e : Ex} {l : Int} {h : Option Int} {b : Addr} (he : ExAt K H (repX e l h) (.ref b)) : ∃ (dx : Addr) (fs : List (Str × V)), H b = some (.ins (He.ga K "Repeat") dx fs) ∧ fs.lookup ("low" : Str) = some (.int l) ∧ fs.lookup ("high" : Str) = some (optV h) := by
  obtain ⟨b', dx, tp, ka, vs, us, eb, hbo, hS, hps, hvs, _, _⟩ := he.get
  cases eb
  obtain ⟨p, rfl⟩ : ∃ p, vs = [p] := by
    unfold repX Ex.parts ExAll at hps
    obtain ⟨v, rs, h1, h2, h3⟩ := hps
    unfold ExAll at h3
    subst h3
    exact ⟨v, h1⟩
  have hus : us = [.int l, optV h] := by
    unfold repX Ex.vals at hvs
    cases hvs with
    | cons h1 h2 =>
      cases h2 with
      | cons h3 h4 =>
        cases h4
        cases h1
        cases h with
        | none => cases h3; rfl
        | some k => cases h3; rfl
  subst hus
  exact ⟨dx, _, hbo, rfl, rfl⟩
def rowD : List PyData := [.tuple [.int 0, .none], .tuple [.int 7, .none], .tuple [.int 0, .int 7]]
theorem ok_law (T : Tab P K w mg) (TB : ∀ p ∈ tabsK K lms, LamX.TabB base mg p.1 p.2) : FnOkG P w K mg base (L2.CX P w) 14 (dp_law.pa.at_ K) (fdAt K (dp_law.pa.at_ K)) ["_law_script"] (sp_law K) := by
  refine fn_mkGT (d := dp_law) T.d_law rfl sc_law (fun vs H Q E h => ?_) fun cdv hcd A outer hgd s H vs Q E hr h => ?_
  · obtain ⟨a, ns, rfl, hT, hS, h63, hq⟩ := h
    rfl
  · obtain ⟨a, ns, rfl, hT, hS, h63, hq⟩ := h
    refine ⟨_, (pss_cons (ps_set (i := 1) sc_law.nd rfl (Or.inr rfl) (pe_make0 (T.exs.cls .any).mks (ok_AnyChar___init__ T) (hr.mono (by decide)) rfl T.g_AnyChar (bd_AnyChar___init__ T) .nil (passes_call tk_fn fun _ _ _ _ z => z)))
    (pss_cons (ps_set (i := 2) sc_law.nd rfl (Or.inl rfl) (pe_lst (pa_cons (pe_make (T.exs.cls .rep).mks (ok_Repeat___init__ T) (hr.mono (by decide)) rfl T.g_Repeat (kd_Repeat T).choose_spec.2 (kd_Repeat T).choose_spec.1 (passes_call tk_fn fun _ _ _ _ z => z) (pa_cons (pv 1) pa_nil)) (pa_cons (pe_makeK (T.exs.cls .rep).mks (ok_Repeat___init__ T) (hr.mono (by decide)) rfl T.g_Repeat (kb_Repeat_1_low T).choose_spec (passes_call tk_fn fun _ _ _ _ z => z) (pa_cons (pv 1) pa_nil) (pk_cons pe_int pk_nil)) (pa_cons (pe_makeK (T.exs.cls .rep).mks (ok_Repeat___init__ T) (hr.mono (by decide)) rfl T.g_Repeat (kb_Repeat_1_high T).choose_spec (passes_call tk_fn fun _ _ _ _ z => z) (pa_cons (pv 1) pa_nil) (pk_cons pe_int pk_nil)) pa_nil)))))
    (pss_cons (ps_if (pt_cmpR (op_neK (K := K) rfl (Room.units hr)) (pe_callB (call_reprD hgd (Room.units hr)) (by rfl) T.f_repr (by decide +kernel) (pa_cons (pe_lc (own := [("_law_one", 8)]) (g := gName 8) rfl sc_law.nd (pi_listK (K := K) rfl (pv 2)) (blkOk_by (N := ["_law_script", "_law_inner", "_law_some", "_law_k", "_law_source_here", "_law_turn", "_law_least", "_law_most", "_law_one"]) (sc := defScope s_law) (by decide +kernel)) (fun _ _ _ _ _ => pg_name (i := 8) sc_law.nd rfl (Or.inl rfl)) (fun _ _ _ _ _ => pts_nil) (fun _ _ _ _ _ => (pe_tup (pa_cons (pe_fldK (K := K) rfl (pv 8) rfl) (pa_cons (pe_fldK (K := K) rfl (pv 8) rfl) pa_nil))))) pa_nil)) pe_str (nomark _))
    (pss_one (ps_ret pe_bl))
    pss_nil)
    (pss_cons (ps_for po_fn rfl (pi_range1 rfl T.f_range (pa_cons (pe_callB (call_max2 rfl) (by rfl) T.f_max (by decide +kernel) (pa_cons pe_int (pa_cons (pe_callB (call_min2 rfl) (by rfl) T.f_min (by decide +kernel) (pa_cons pe_int (pa_cons (pe_callB (call_lenK (K := K) rfl) (by rfl) T.f_len (by decide +kernel) (pa_cons (pv 0) pa_nil)) pa_nil))) pa_nil))) pa_nil)) (pg_name (i := 3) sc_law.nd rfl (Or.inl rfl))
    (pss_cons (ps_set (i := 4) sc_law.nd rfl (Or.inl rfl) (pe_fn (ok__law_source T) (hr.mono (by decide)) rfl tk_fn (pa_cons (pv 0) (pa_cons (pv 3) pa_nil))))
    (pss_cons (ps_for po_fn rfl (pi_range1 rfl T.f_range (pa_cons pe_int pa_nil)) (pg_name (i := 5) sc_law.nd rfl (Or.inl rfl))
    (pss_one (ps_if (pt_not (pt_val (pe_fnG (ok__law_right T TB) hgd (hr.mono (by decide)) rfl tk_fn (pa_cons (pe_fn (ok__law_count T) (hr.mono (by decide)) rfl tk_fn (pa_cons (pv 4) pa_nil)) (pa_cons (pe_fn (ok__law_count T) (hr.mono (by decide)) rfl tk_fn (pa_cons (pv 4) pa_nil)) pa_nil)))))
    (pss_one (ps_ret pe_bl))
    pss_nil)))
    (pss_cons (ps_set (i := 6) sc_law.nd rfl (Or.inl rfl) (pe_fn (ok__law_next T) (hr.mono (by decide)) rfl tk_fn (pa_cons (pv 4) (pa_cons pe_int pa_nil))))
    (pss_one (ps_for po_fn rfl (pi_tupK (K := K) rfl (pe_tup (pa_cons (pe_op op_sub (pv 6) pe_int) (pa_cons (pv 6) (pa_cons (pe_op (op_addK (K := K) rfl) (pv 6) pe_int) (pa_cons pe_non pa_nil)))))) (pg_name (i := 7) sc_law.nd rfl (Or.inl rfl))
    (pss_one (ps_if (pt_not (pt_val (pe_fnG (ok__law_right T TB) hgd (hr.mono (by decide)) rfl tk_fn (pa_cons (pv 6) (pa_cons (pv 7) pa_nil)))))
    (pss_one (ps_ret pe_bl))
    pss_nil))))))))
    (pss_one (ps_ret (pe_and (pe_cmpR (op_eqK (K := K) rfl (Room.units hr)) (pe_fldK (K := K) rfl (pe_makeK (T.exs.cls .rep).mks (ok_Repeat___init__ T) (hr.mono (by decide)) rfl T.g_Repeat (kb_Repeat_1_low_high T).choose_spec (passes_call tk_fn fun _ _ _ _ z => z) (pa_cons (pv 1) pa_nil) (pk_cons pe_int (pk_cons pe_int pk_nil))) rfl) pe_int (nomark _)) (pe_one (pe_lamD (k := 8) (T := tabsQ K lms) (TT := TRef (He.ga K "BadExpression")) (d := dp__law_refused_so) (Ng := ["_law_call_so", "_law_caught", "error"]) T.d__law_refused_so rfl rfl rfl rfl T.g__law_refused_so (fun _ _ _ _ _ _ us hl => match us, hl with | [_], _ => rfl) sc__law_refused_so rfl (Or.inl rfl) (fun cdg => gv__law_refused_so T _ cdg _) (TB (codeOf K dp_law, tabOf K dp_law) (.tail _ (.head _))) (hcd.symm.trans T.lam_law) (.tail _ (.head _)) (hu_lam_law T) (hr.mono (by decide)) (LamX.lamS_by (by show LamX.lamSB (defScope s_law) _ = true; decide +kernel)) rfl (fun _ _ _ _ _ => rfl) (fun _ _ _ _ _ _ _ hrl => (pe_makeK (T.exs.cls .rep).mks (ok_Repeat___init__ T) (hrl.mono (by decide)) rfl T.g_Repeat (kb_Repeat_1_high T).choose_spec (passes_call tk_lam fun _ _ _ _ z => z) (pa_cons (pv 1) pa_nil) (pk_cons pe_int pk_nil)))))))))))), ?_⟩
    walk_at "gs"
    refine any_at (fun _ => rfl) fun a1 H1 hn1 x1 he1 => ?_
    walk_at "gs"
    refine rep_at (.ref a1) (.int 0) .non (some anyX) (fun _ => rfl) (fun _ _ => int_is _) (fun _ _ => non_is) (fun H' y => ExAt.mono y _ _ he1) ?_
    rw [show repO (some anyX) (.int 0) .non = fit (repX anyX 0 none) from rfl, fit_any]
    refine fun b1 H2 _ x2 hb1 => ?_
    walk_at "gs"
    refine ⟨rfl, rfl, rep_at (.ref a1) (.int 7) .non (some anyX) (fun _ => rfl) (fun _ _ => int_is _) (fun _ _ => non_is) (fun H' y => ExAt.mono (x2.tr y) _ _ he1) ?_⟩
    rw [show repO (some anyX) (.int 7) .non = fit (repX anyX 7 none) from rfl, fit_any]
    refine fun b2 H3 _ x3 hb2 => ?_
    walk_at "gs"
    refine ⟨rfl, rfl, rep_at (.ref a1) (.int 0) (.int 7) (some anyX) (fun _ => rfl) (fun _ _ => int_is _) (fun _ _ => int_is _) (fun H' y => ExAt.mono ((x2.tr x3).tr y) _ _ he1) ?_⟩
    rw [show repO (some anyX) (.int 0) (.int 7) = fit (repX anyX 0 (some 7)) from rfl, fit_any]
    refine fun b3 H4 _ x4 hb3 => ?_
    walk_at "gs"
    intro q hq0
    obtain ⟨f5, e5, x5, h5⟩ := box hq0
    rw [← e5]
    have hql := h5 (.lst [.ref b1, .ref b2, .ref b3])
    walk_at "gi"
    have clr := (T.exs.cls .rep).ins.cl
    have m2 := (T.exs.cls .rep).na "low" (by decide)
    have m3 := (T.exs.cls .rep).na "high" (by decide)
    have hc1 := ExAt.mono ((x3.tr x4).tr (x5 (.lst [.ref b1, .ref b2, .ref b3]))) _ _ hb1
    have hc2 := ExAt.mono (x4.tr (x5 (.lst [.ref b1, .ref b2, .ref b3]))) _ _ hb2
    have hc3 := ExAt.mono (x5 (.lst [.ref b1, .ref b2, .ref b3])) _ _ hb3
    refine go_lcE q [.ref b1, .ref b2, .ref b3] (fun j y H => ∃ d, rowD[j]? = some d ∧ Dp K H y d) (fun R r => go_var rfl r) (sq_of hql) (by show 3 ≤ 10000; decide) (fun j y H1 H2 x h => by
      obtain ⟨d, h1, h2⟩ := h
      exact ⟨d, h1, x.dp h2⟩) (fun j x H6 hx x6 R hR => ?_) (fun _ => rfl) fun D H6 ys hD x6 hDl hlen hP => ?_
    · obtain ⟨b, l, h, rfl, hj, hb⟩ : ∃ (b : Addr) (l : Int) (h : Option Int), x = .ref b ∧ rowD[j]? = some (.tuple [.int l, optD h]) ∧ ExAt K H6 (repX anyX l h) (.ref b) := by
        match j, hx with
        | 0, hx => cases hx; exact ⟨b1, 0, none, rfl, rfl, ExAt.mono x6 _ _ hc1⟩
        | 1, hx => cases hx; exact ⟨b2, 7, none, rfl, rfl, ExAt.mono x6 _ _ hc2⟩
        | 2, hx => cases hx; exact ⟨b3, 0, some 7, rfl, rfl, ExAt.mono x6 _ _ hc3⟩
      obtain ⟨dx, fs, hbo, hlo, hhi⟩ := rep_get hb
      walk_at "gs"
      refine ⟨b, _, dx, fs, _, rfl, hbo, clr, m2, hlo, ?_⟩
      walk_at "gs"
      refine ⟨b, _, dx, fs, _, rfl, hbo, clr, m3, hhi, ?_⟩
      walk_at "gs"
      intro q7 hq7
      obtain ⟨f7, e7, x7, h7⟩ := box hq7
      rw [← e7]
      refine hR _ _ (x7 _) fun D2 hD2 => ⟨_, hj, .tup (xs := [.int l, optV h]) (st_of ?_) (.cons (.int _) (.cons ?_ .nil))⟩
      · have nd : q7 ≠ D2 := fun z => hD2 (by rw [← z]; exact hq7)
        rw [del_ne nd]
        exact h7 _
      · cases h with
        | none => exact .non
        | some k => exact .int _
    obtain ⟨y0, y1, y2, rfl⟩ : ∃ y0 y1 y2, ys = [y0, y1, y2] := by
      match ys, hlen with
      | [y0, y1, y2], _ => exact ⟨y0, y1, y2, rfl⟩
    obtain ⟨d0, hd0, p0⟩ := hP 0 y0 rfl
    obtain ⟨d1, hd1, p1⟩ := hP 1 y1 rfl
    obtain ⟨d2, hd2, p2⟩ := hP 2 y2 rfl
    cases hd0
    cases hd1
    cases hd2
    have xd : Ext (L2.del H6 D) H6 := ExtX.rf.del
    walk_at "gi"
    refine ⟨D, .list rowD, rfl, .lst (sq_of hDl) (.cons (xd.dp p0) (.cons (xd.dp p1) (.cons (xd.dp p2) .nil))), rfl, by decide +kernel, by decide +kernel, by rw [sizeLine_eq]; decide +kernel, ?_⟩
    walk_at "gi"
    rw [show decide (V.str (PyData.list rowD).shown = V.str "[(0, None), (7, None), (0, 7)]") = true by decide +kernel]
    walk_at "gi"
    have xa : Ext H1 H6 := (((x2.tr x3).tr x4).tr (x5 (.lst [.ref b1, .ref b2, .ref b3]))).tr x6
    have xh : Ext H H6 := x1.tr xa
    have T6 := hT.ext xh
    have hS6 := sqL_noTab (xh.seqL hS)
    have he6 := ex_noTab _ _ (ExAt.mono xa _ _ he1)
    walk_at "fr"
    walk_at "gs"
    refine go_lenL (noTab_in.seqL hS6) ?_
    rw [List.length_map]
    walk_at "gs"
    refine ⟨3, _, rfl, ?_⟩
    walk_at "gs"
    refine ⟨1, _, rfl, ?_⟩
    walk_at "gs"
    have hm : ∀ m : Int, m = (if (if (ns.length : Int) < 3 then (ns.length : Int) else 3) > 1 then (if (ns.length : Int) < 3 then (ns.length : Int) else 3) else 1) → 0 ≤ m ∧ m ≤ 3 := by
      intro m hm
      subst hm
      split
      · split <;> omega
      · omega
    generalize (if (if (ns.length : Int) < 3 then (ns.length : Int) else 3) > 1 then (if (ns.length : Int) < 3 then (ns.length : Int) else 3) else 1) = mm at hm ⊢
    obtain ⟨mm0, mm3⟩ := hm mm rfl
    refine ⟨by omega, by omega, for_range (fun n σ H' => Ext (noTab H6) H' ∧ LamX.Tabs (tabsQ K lms) H' ∧ ∃ o3 o4 o5 o6 o7 o8, σ = [some (.ref a), some (.ref a1), some (.ref q), o3, o4, o5, o6, o7, o8]) ⟨noTab_in, T6, _, _, _, _, _, _, rfl⟩ (fun n σ H7 hn p => ?_) fun σ H7 p => ?_⟩
    · obtain ⟨x7, T7, o3, o4, o5, o6, o7, o8, rfl⟩ := p
      walk_at "gs"
      refine ⟨a, 0 + (n : Int), ns, rfl, x7.seqL hS6, by omega, by omega, fun c d p H8 hp x8 hp8 => ?_⟩
      have T8 := T7.ext x8
      have gp : noTab H6 p = none := x7.free hp
      walk_at "gs"
      walk_at "fr"
      walk_at "gs"
      refine ⟨by decide, by decide, for_range (fun m σ H' => Ext (noTab H6) H' ∧ LamX.Tabs (tabsQ K lms) H' ∧ (∃ j, Src H' p j ∧ j ≤ 10 + 2 * m) ∧ ∃ o3 o5 o6 o7 o8, σ = [some (.ref a), some (.ref a1), some (.ref q), o3, some (.ref p), o5, o6, o7, o8]) ⟨x7.tr x8, T8, ⟨_, ⟨c, d, hp8, by omega⟩, by omega⟩, _, _, _, _, _, rfl⟩ (fun m σ H9 hm9 pp => ?_) fun σ H9 pp => ?_⟩
      · obtain ⟨x9, T9, ⟨j, hs9, hj9⟩, o3, o5, o6, o7, o8, rfl⟩ := pp
        have hm12 : m < 12 := hm9
        obtain ⟨c9, d9, hp9, _⟩ := id hs9
        walk_at "gi"
        refine ⟨p, j, rfl, hs9, by omega, fun v1 j1 H10 hj1 x10 hs10 hv1 => ?_⟩
        obtain ⟨c10, d10, hp10, _⟩ := id hs10
        walk_at "gi"
        refine ⟨p, j1, rfl, hs10, by omega, fun v2 j2 H11 hj2 x11 hs11 hv2 => ?_⟩
        obtain ⟨c11, d11, hp11, hj11⟩ := id hs11
        have T11 := tabs_x hp10 x11 (tabs_x hp9 x10 T9)
        walk_at "gi"
        refine ⟨v1, v2, rfl, T11, fun H' y => hv1 H' (x11.nx.tr (.of y)), fun H' y => hv2 H' (.of y), fun H12 y12 T12 => ?_⟩
        walk_at "gi"
        exact ⟨((x9.thruX gp x10).thruX gp x11).thruN y12, T12, ⟨j2, ⟨c11, d11, y12 _ _ hp11 (fun ps z => by cases z), hj11⟩, by omega⟩, _, _, _, _, _, rfl⟩
      · obtain ⟨x9, T9, ⟨j, hs9, hj9⟩, o3, o5, o6, o7, o8, rfl⟩ := pp
        obtain ⟨c9, d9, hp9, _⟩ := id hs9
        walk_at "gi"
        refine ⟨p, 22, j, rfl, hs9, by simp at hj9; omega, by decide, by decide, fun r j' H10 r0 r1 hj' x10 hs10 => ?_⟩
        have T10 := tabs_x hp9 x10 T9
        have y10 := x9.thruX gp x10
        walk_at "gi"
        walk_at "fr"
        walk_at "gi"
        intro q2 hq2
        obtain ⟨f9, e9, z9, h9⟩ := box hq2
        rw [← e9]
        have hql2 := h9 (.tup [.int (r - 1), .int r, .int (r + 1), .non])
        have y11 := y10.tr (z9 (.tup [.int (r - 1), .int r, .int (r + 1), .non]))
        have T11 := T10.ext (z9 (.tup [.int (r - 1), .int r, .int (r + 1), .non]))
        have hqt := sqT_noTab (K := K) (st_of hql2)
        refine ⟨q2, rfl, ⟨_, st_of hql2⟩, for_tup (xs := [.int (r - 1), .int r, .int (r + 1), .non]) (fun m σ H' => Ext (noTab (f9 (.tup [.int (r - 1), .int r, .int (r + 1), .non]))) H' ∧ LamX.Tabs (tabsQ K lms) H' ∧ ∃ o3 o5 o7 o8, σ = [some (.ref a), some (.ref a1), some (.ref q), o3, some (.ref p), o5, some (.int r), o7, o8]) ⟨noTab_in, T11, _, _, _, _, rfl⟩ (fun m σ H' _ pp => pp.1.seqT hqt) (fun m x σ H12 hx pp => ?_) fun σ H12 pp => ?_⟩
        · obtain ⟨x12, T12, o3, o5, o7, o8, rfl⟩ := pp
          have hx2 : ∀ H', IntIs K H' x := by
            have hx3 := List.mem_of_getElem? hx
            simp only [List.mem_cons, List.not_mem_nil, or_false] at hx3
            intro H'
            rcases hx3 with rfl | rfl | rfl | rfl
            · exact int_is _
            · exact int_is _
            · exact int_is _
            · exact non_is
          walk_at "gi"
          refine ⟨.int r, x, rfl, T12, fun _ _ => int_is _, fun H' _ => hx2 H', fun H13 y13 T13 => ?_⟩
          walk_at "gi"
          exact ⟨x12.thruN y13, T13, _, _, _, _, rfl⟩
        · obtain ⟨x12, T12, o3, o5, o7, o8, rfl⟩ := pp
          walk_at "gi"
          exact ⟨y11.noTabT.tr x12, T12, _, _, _, _, _, _, rfl⟩
    · obtain ⟨x7, T7, o3, o4, o5, o6, o7, o8, rfl⟩ := p
      have he7 := ExAt.mono x7 _ _ he6
      walk_at "gi"
      refine ⟨rfl, rfl, rep_at (.ref a1) (.int 20) (.int 20) (some anyX) (fun _ => rfl) (fun _ _ => int_is _) (fun _ _ => int_is _) (fun H' y => ExAt.mono y _ _ he7) ?_⟩
      rw [show repO (some anyX) (.int 20) (.int 20) = fit (repX anyX 20 (some 20)) from rfl, fit_any]
      refine fun b4 H8 _ x8 hb4 => ?_
      obtain ⟨dx, fs, hbo, _, hhi⟩ := rep_get hb4
      walk_at "gi"
      refine ⟨b4, _, dx, fs, _, rfl, hbo, clr, m3, hhi, ?_⟩
      walk_at "gi"
      rw [show decide (optV (some 20) = V.int 20) = true from rfl]
      walk_at "gi"
      refine ⟨T7.ext x8, fun H9 y9 T9 => fun E2 R hE hR => ?_⟩
      walk_at "gs"
      refine ⟨rfl, rfl, rep_at (.ref a1) (.int 0) (.int 0) (some anyX) (fun _ => rfl) (fun _ _ => int_is _) (fun _ _ => int_is _) (fun H' y => ExtN.ex ((LamX.ExtN.of x8).trans (y9.trans (.of y))) he7) ?_⟩
      rw [show repO (some anyX) (.int 0) (.int 0) = none from rfl]
      exact fun d H' y r => hE _ _ _ rfl (hq H')
end
end L2.Pg
namespace L2.Pg
open PySem PySem.Spec PyProof.Rows L2
open PySem.W (Frag findIn nsIn)
set_option maxRecDepth 100000 in
theorem hb_law (cl : List (Str × Addr)) (kV doc pm : Value) (an : Option Addr) (cdv ct : Value) (us : List Value) (hl : us.length = (["_law_script"] : List Str).length) :
    bindArgs (PySem.W.fnX dp_law.name dp_law.qual dp_law.params dp_law.body dp_law.scope cl .none kV doc pm an cdv ct) ⟨us, []⟩ = (pure ((["_law_script"] : List Str).zip us) : Sem (List (Str × Value))) := match us, hl with | [_], _ => rfl
theorem bt_law {P : Program} {K : Frag} {w : World} {mg : Str → Option Value} (T : Tab P K w mg) (s : Shared) (u : Value) : BindsTo s (fdAt K (dp_law.pa.at_ K)) ⟨[u], []⟩ [("_law_script", u)] := T.d_law.bindsTo (ps := ["_law_script"]) rfl hb_law s [u] rfl
theorem end_law (w : World) (mg : Str → Option Value) (K : Frag) (h : Heap) (KX : K.In h) (hns : h.Ns mainGlobals mg) (c : SaysP cks fns tbs w K) (L : ∀ d ∈ lms, LamAt K h d) :
    mg "law" = some (.ref (dp_law.pa.at_ K)) ∧ (∀ (s : Shared) (u : Value), BindsTo s (fdAt K (dp_law.pa.at_ K)) ⟨[u], []⟩ [("_law_script", u)]) ∧
      (∀ (H : Hp) (a : Addr) (ns : List Int), ns.length ≤ 63 → (∀ p ∈ tabsK K lms, H p.2 = some (.tbl #[])) → SqL K H a (ns.map V.int) → sp_law K [.ref a] H (fun v _ => v = .bl true) fun _ _ _ => False) ∧
      ∀ base : Heap, (∀ p ∈ tabsK K lms, LamX.TabB base mg p.1 p.2) → FnOkG PySem.Challenge.rw_pegwright_k04_repetitions_checked.prog w K mg base (L2.CX PySem.Challenge.rw_pegwright_k04_repetitions_checked.prog w) 14 (dp_law.pa.at_ K) (fdAt K (dp_law.pa.at_ K)) ["_law_script"] (sp_law K) := by
  have T := tab_of KX hns c L
  exact ⟨T.g_law, bt_law T, fun H a ns hl hH hS => ⟨a, ns, rfl, nil_tab hH, hS, hl, fun _ => rfl⟩, fun base TB => ok_law T TB⟩
end L2.Pg
open PySem PySem.W PySem.Calls PyProof.Rows
set_option maxRecDepth 100000 in
set_option maxHeartbeats 0 in
theorem PySem.Challenge.cw_pegwright_k04_repetitions_checked_holds : PySem.Challenge.rw_pegwright_k04_repetitions_checked.Holds := by
  w_on; o_law
  refine HandSHeadRun.head_any (r := OpenLaw.row PySem.Challenge.rw_pegwright_k04_repetitions_checked) (q := view (OpenLaw.row PySem.Challenge.rw_pegwright_k04_repetitions_checked).prog [76]) (H := L2.Pg.hk) (ob := L2.Pg.ob) (M := 20000) (loose := L2.Pg.names)
    (d := HandSHeadRun.topDef (OpenLaw.row PySem.Challenge.rw_pegwright_k04_repetitions_checked).prog 76) (kwd := []) L2.Pg.ob_eq
    (by kernel_rfl) (fun s => by kernel_rfl) L2.Pg.run (by kernel_rfl) (by kernel_rfl) (by kernel_rfl) (by rfl) (by first | assumption | decide +kernel) (by decide +kernel)
    ⟨rfl, rfl, rfl, rfl, rfl, by decide +kernel⟩ ?hw ?hc
  case hw => w_witness2
  case hc =>
    exact L2.Pg.walk_law (l := PySem.Challenge.rw_pegwright_k04_repetitions_checked) (n := 63) (k := 14) (x := "_law_script") (dp := L2.Pg.dp_law) (sp := L2.Pg.sp_law) rfl (by decide) (by kernel_rfl) ⟨rfl, by decide, by decide⟩ (by kernel_rfl) L2.Pg.end_law
