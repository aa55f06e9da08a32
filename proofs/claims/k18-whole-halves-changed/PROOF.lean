import PyProof.Rows.All
import Wide.All
import OpenK.AllK
import Wide.FinOn
import HandS.ForMost
import KE.KDictKeyed
import PyProof.ReprRoads
import KE.KDictList
import KE.KDictZip
import HandS.Walk
import KE.GoesEnum
import HandS.SortRule
import HandS.SortKw
import KE.KSortKeySt
import PySem.Challenge.RW_boxsums_k18_whole_halves_changed
import HandS.TupAny
import HandS.TupMul
import HandS.IsInst
import HandS.Codes
set_option Elab.async false
set_option linter.all false
set_option maxRecDepth 100000
set_option maxHeartbeats 1000000
/-! Calls below which nothing is being shown (A.guards = some []): a def's promise, its call, the law's end. -/
namespace Bx
open PySem PySem.Spec PyProof.Rows L2

/-- a def that keeps its promise wherever nothing is being shown -/
structure FnG (P : Program) (w : World) (K : PySem.W.Frag) (mg : Str → Option Value) (base : Heap) (k : Nat) (f : Addr) (fd : FuncData) (ps : List Str) (sp : Sp) : Prop where
  len : ∀ vs H Q E, sp vs H Q E → vs.length = ps.length
  go : ∀ (A : Around) (outer : List Env) (s : Shared) (H : Hp) (args : Args) (us : List Value) (vs : List V) (Q : VK) (E : XK),
    A.guards = some [] → Room k A → Env0 P w K mg base A outer s H → BindsTo s fd args (ps.zip us) → Vals vs us → sp vs H Q E →
    codeAny (model P w) A (.call (.ref f) args) (CR CX0 outer P w H s Q E) s

section
variable {P : Program} {w : World} {K : PySem.W.Frag} {mg : Str → Option Value} {base : Heap}
theorem FnG.of {k : Nat} {f : Addr} {fd : FuncData} {ps : List Str} {sp : Sp} (F : FnOk P w K mg base CX0 k f fd ps sp) : FnG P w K mg base k f fd ps sp :=
  ⟨F.len, fun A outer s H args us vs Q E _ hr e hb r h => F.run A outer s H args us vs Q E hr e hb r h⟩

/-- a def of the text, by its body, where nothing is being shown -/
theorem okG {x qual : Str} {st : Stmt} {f : Addr} {fd : FuncData} {N ps : List Str} {k : Nat} {sp : Sp} (F : Fun K x qual st f fd) (S : FnScope N ps (defScope st))
    (len : ∀ vs H Q E, sp vs H Q E → vs.length = ps.length)
    (body : ∀ (cdv : Value) (A : Around) (outer : List Env) (s : Shared) (H : Hp) (vs : List V) (Q : VK) (E : XK), A.guards = some [] →
      Room k (A.deeper (envOfC qual (defScope st) s.heap.objs.size f cdv)) → sp vs H Q E →
      ∃ t, PSs (cxOf CX0 P w K mg base N qual (defScope st) f cdv A outer s H E).nox (defBody st) t ∧ t { nx := fun _ H' => Q .non H', rt := Q } (start N vs) H) :
    FnG P w K mg base (k + 1) f fd ps sp := by
  refine ⟨len, fun A outer s H args us vs Q E hg hr e0 hb r hsp => ?_⟩
  obtain ⟨oc, od, kV, doc, pm, an, cdv, ct, osl, rfl, lk, hcd⟩ := F.ex
  have hl := len _ _ _ _ hsp
  have old : ∀ b o, base.get? b = some o → s.heap.get? b = some o := fun b o e => (e0.bs b o e).1
  have KX : K.In s.heap := e0.mod.kin.keeps old
  have lim : s.heap.NoLimit := e0.mod.nolimit.keeps old
  have kinds : ∀ y ∈ ps.zip us, (defScope st).names.lookup y.1 = some .local ∨ ((defScope st).names.lookup y.1 = some .cell ∧ ((cellsFrom (s.heap.objs.size + 1) (defScope st).names []).lookup y.1).isSome = true) := by
    rintro ⟨n, v⟩ hy
    rcases S.par n (List.of_mem_zip hy).1 with q | q
    · exact Or.inl q
    · exact Or.inr ⟨q, PySem.W.cellsFrom_some _ _ _ (Or.inl q)⟩
  refine codeAny_call_function hr.depth (KX _ _ lk) rfl S.co S.gen rfl (PySem.W.codeRec_of KX hcd) (hb _ _ _ _ ?_)
  refine wpAny_newFunctionEnv_cells S.kind kinds fun env he s1 x => ?_
  subst he
  refine ⟨lim.keeps x.toInCall.keep, codeAny_func ?_⟩
  obtain ⟨t, ht, hq⟩ := body cdv A outer s H vs Q E hg (hr.deeper _) hsp
  have I : Inv (cxOf CX0 P w K mg base N qual (defScope st) f cdv A outer s H E) [] (start N vs) H s1 := inv_start S hr.hd e0 hl r x
  refine wpAny_mono (ht.nox.run [] s1 (start N vs) H _ I hq) (fun fl s' hs => ?_) fun e s' hs => hs
  have fin : ∀ {σ' : L2.St} {H' : Hp} {v : V} {u : Value}, Inv (cxOf CX0 P w K mg base N qual (defScope st) f cdv A outer s H E) [] σ' H' s' → RelV v u → Q v H' → CE outer P w H s Q u s' :=
    fun {σ' H' v u} J rv q => ⟨v, H', J.os, J.bare, J.base, J.hok, rv, q⟩
  match fl, hs with
  | .ret u, ⟨v, σ', H', J, rv, q⟩ => exact fin J rv q
  | .next, ⟨σ', H', J, q⟩ => exact fin (v := V.non) (u := Value.none) J rfl q
  | .brk, ⟨_, _, _, q⟩ => exact False.elim q
  | .cont, ⟨_, _, _, q⟩ => exact False.elim q
end

section
variable {X : Cx} {k : Nat} {f : Addr} {fd : FuncData} {ps : List Str} {sp : Sp} {x : Str} {p pos : Pos} {e : Expr} {es : List Expr} {t : TA}
theorem runG {pins : List (Addr × Obj)} {σ : L2.St} {H : Hp} {s : Shared} {Q : VK} {us : List Value} {vs : List V} (F : FnG X.prog X.w X.K X.mg X.base k f fd ps sp) (hg : X.A.guards = some []) (hr : Room k X.A) (hb : Binds X.K fd ps [])
    (I : Inv X pins σ H s) (r : Vals vs us) (h : sp vs H Q E0) : wpAny (model X.prog X.w) X.A (call (.ref f) us) (EP X pins σ Q) X.xe s := by
  have hl : (us ++ []).length = ps.length := by rw [List.append_nil, ← r.length]; exact F.len _ _ _ _ h
  have hbb := hb s us I.kIn hl
  rw [List.append_nil] at hbb
  refine wpAny_call (codeAny_mono (F.go X.A X.stack s H ⟨us, []⟩ us vs Q E0 hg hr I.env0 hbb r h) fun r s' hq => ?_)
  match r, hq with
  | .error e, hq => exact False.elim hq
  | .ok (.ret u), hq => exact I.after hq
  | .ok .next, hq => exact False.elim hq
  | .ok .brk, hq => exact False.elim hq
  | .ok .cont, hq => exact False.elim hq
theorem pe_callG (F : FnG X.prog X.w X.K X.mg X.base k f fd ps sp) (hgu : X.A.guards = some []) (hr : Room k X.A) (hg : Gl X x) (hm : X.mg x = some (.ref f)) (hk : PySem.W.keepIn X.K (.ref f) = true) (hb : Binds X.K fd ps [])
    (ha : PA X (e :: es) t) (hdb : (x == ("__debug__" : Str)) = false := by decide) (he : starEach (e :: es) X.env = (false, eval e X.env) :: starEach es X.env := by rfl) (hpl : (backTo pos (starEach es X.env)).any (·.1) = false := by rfl) :
    PE X (.Call (.Name x p) (e :: es) [] pos) (tCall sp [] E0 t) := by
  refine ⟨fun pins s σ H Q I h => wpAny_Call_Name_kw (ld_glob I hg hm ?_ hdb)⟩
  refine PySem.W.callWith_K (h₀ := X.base) I.ok.mod.kin hk (thn (ha.run pos pins s σ H _ I h) fun us s1 ⟨vs, H1, I1, r, q⟩ => ⟨I1.kIn, ?_⟩) he hpl
  have q : sp (vs ++ []) H1 Q E0 := q
  rw [List.append_nil] at q
  exact runG F hgu hr hb I1 r q
end
end Bx

set_option Elab.async false
set_option linter.all false
set_option maxRecDepth 100000
set_option maxHeartbeats 1000000
/-! The end of the row, for a law's def whose promise needs that nothing is being shown. -/
namespace Bx
open PySem PySem.Spec PyProof.Rows L2

/-- an abstract heap that tracks at most the script -/
theorem abs_script {P : Program} {w : World} {K : PySem.W.Frag} {h : Heap} {a : Addr} {vs : List Value} {ns : List Int} (kh : K.In h)
    (ha : h.get? a = some { cls := .type "list", data := .seq vs.toArray }) (hi : IntsAre vs ns) (hl : ns.length ≤ sizeLine) :
    ∃ H : Hp, Only H ∧ SqL K H a (ns.map V.int) ∧ HOk P w H h ∧ ∀ b u, H b = some u → b = a ∧ K.lookup a = none := by
  have rv := vals_ints hi
  rcases hk : K.lookup a with _ | o
  · let T : Hp := fun b => if b = a then some (.frz { cls := .type "list", data := .seq vs.toArray } (.lst (ns.map V.int))) else none
    have Ta : T a = some (.frz { cls := .type "list", data := .seq vs.toArray } (.lst (ns.map V.int))) := if_pos rfl
    have Tn : ∀ b, b ≠ a → T b = none := fun b hb => if_neg hb
    refine ⟨T, fun b => ?_, .inl (.inr ⟨_, Ta⟩), fun b u z => ?_, fun b u z => ⟨?_, rfl⟩⟩
    · rcases Nat.decEq b a with hb | hb
      · exact .inl (Tn b hb)
      · subst hb; exact .inr ⟨_, _, Ta⟩
    · rcases Nat.decEq b a with hb | hb
      · rw [Tn b hb] at z; cases z
      · subst hb; rw [Ta] at z; cases z
        exact ⟨ha, by rw [List.length_map]; exact hl, vs, _, rv, ha⟩
    · rcases Nat.decEq b a with hb | hb
      · rw [Tn b hb] at z; cases z
      · exact hb
  · have hh := (kh a o hk).symm.trans ha
    injection hh with hh
    subst hh
    have lv : vs.toArray.size ≤ sizeLine := by rw [List.size_toArray, hi.length]; exact hl
    exact ⟨fun _ => none, fun _ => .inl rfl, .inr ⟨_, vs.toArray, _, hk, rfl, rfl, rfl, lv, by simpa using rv⟩, fun b u z => absurd z (Option.some_ne_none u).symm, fun b u z => absurd z (Option.some_ne_none u).symm⟩

theorem law_callG {P : Program} {w : World} {K : PySem.W.Frag} {mg mb : Str → Option Value} {k : Nat} {fa a : Addr} {fd : FuncData} {x : Str} {sp : Sp} {s₁ : Shared} {vs : List Value} {ns : List Int}
    (kh : K.In s₁.heap) (nm : s₁.heap.Ns mainGlobals mg) (nb : s₁.heap.Ns builtinsNs mb) (bb : ∀ x : Str, x ≠ "__name__" → mb x = bootBuiltins x) (nl : s₁.heap.NoLimit) (g0 : s₁.gens = #[])
    (ha : s₁.heap.get? a = some { cls := .type "list", data := .seq vs.toArray }) (hi : IntsAre vs ns) (hl : ns.length ≤ sizeLine) (room : Room k callerA)
    (F : ∀ base : Heap, K.In base → base.Ns mainGlobals mg → FnG P w K mg base k fa fd [x] sp) (bind : ∀ (s : Shared) (u : Value), BindsTo s fd ⟨[u], []⟩ [(x, u)])
    (due : ∀ H : Hp, Only H → SqL K H a (ns.map V.int) → sp [.ref a] H (fun v _ => v = .bl true) E0) :
    codeAny (model P w) callerA (.call (.ref fa) ⟨[.ref a], []⟩) (fun r s' => r = .ok (.ret (.bool true)) ∧ OldK s₁.heap s'.heap ∧ s'.os = s₁.os ∧ AllBare s'.gens) s₁ := by
  obtain ⟨H, only, sq, hok, one⟩ := abs_script (P := P) (w := w) kh ha hi hl
  -- what is not the script stands in the base
  have free : ∀ {b : Addr} {o : Obj}, s₁.heap.get? b = some o → H b = none → (hidT s₁.heap H).get? b = some o := fun e n => hidT_get e n
  have dict_free : ∀ {b : Addr} {o : Obj} {es : Array DictEntry} {ep : Nat}, s₁.heap.get? b = some o → o.data = .dict es ep → H b = none := by
    intro b o es ep e d
    rcases q : H b with _ | u
    · rfl
    · obtain ⟨rfl, _⟩ := one b u q
      rw [ha] at e
      injection e with e
      subst e
      exact Data.noConfusion d
  have ns_base : ∀ {b : Addr} {m : Str → Option Value}, s₁.heap.Ns b m → (hidT s₁.heap H).Ns b m := by
    rintro b m ⟨o, es, ep, e, d, r⟩
    exact ⟨o, es, ep, free e (dict_free e d), d, r⟩
  have kb : K.In (hidT s₁.heap H) := by
    intro b o e
    refine free (kh b o e) ?_
    rcases q : H b with _ | u
    · rfl
    · obtain ⟨rfl, n⟩ := one b u q
      rw [n] at e
      exact absurd e (by simp)
  have md : Mod K mg (hidT s₁.heap H) := by
    obtain ⟨mc, l1, l2⟩ := nl
    exact ⟨kb, ns_base nm, ⟨mb, ns_base nb, bb⟩, ⟨mc, ns_base l1, l2⟩⟩
  have env : Env0 P w K mg (hidT s₁.heap H) callerA [] s₁ H :=
    ⟨rfl, md, fun _ _ e => of_hidT e, Nat.le_of_eq (hidT_size _ _), trivial, fun b hb => absurd (show b ∈ ([] : List Addr) from hb) (by simp), hok, AllBare.of_eq g0⟩
  refine codeAny_mono ((F _ kb (ns_base nm)).go callerA [] s₁ H ⟨[.ref a], []⟩ [.ref a] [.ref a] (fun v _ => v = .bl true) E0 rfl room env (bind s₁ (.ref a)) (.cons rfl .nil) (due H only sq)) fun r s' h => ?_
  match r, h with
  | .error e, h => exact False.elim h
  | .ok .next, h => exact False.elim h
  | .ok .brk, h => exact False.elim h
  | .ok .cont, h => exact False.elim h
  | .ok (.ret u), ⟨v, H', os, bare, un, hok', r', q⟩ =>
    cases (show v = V.bl true from q)
    cases (show u = Value.bool true from r')
    refine ⟨rfl, OldK.of_keep fun b o e => ?_, os, bare⟩
    rcases q : H b with _ | u
    · exact un.keep b o e q (fun z => absurd (show b ∈ ([] : List Addr) from z) (by simp)) (by simp)
    · rcases only b with z | ⟨ob, xs, z⟩
      · rw [q] at z; exact absurd z (by simp)
      · have z1 := (hok b _ z).1
        have z2 := (hok' b _ (un.frzs b ob _ z)).1
        rw [e] at z1
        injection z1 with z1
        subst z1
        exact z2

theorem walk_ofG {l : PySem.W.OpenLaw} {n k : Nat} {q : Program} {loose : List Str} {XP : (Str → Option Value) → Heap → Prop} {YP : World → Heap → Prop} {d : DefRec} {K : Params → PySem.W.Frag} {sp : World → Sp} {x : Str}
    (hn : l.most = some n) (hn2 : n ≤ sizeLine) (hdf : d.params.defaults = []) (room : Room k callerA)
    (hY : ∀ (w : World) (h : Heap), YP w h → (K w.params).In h)
    (F : ∀ (w : World) (mg : Str → Option Value) (fa : Addr) (h : Heap), (K w.params).In h → h.Ns mainGlobals mg → mg d.name = some (.ref fa) →
      ∃ fd : FuncData, (∀ (s : Shared) (u : Value), BindsTo s fd ⟨[u], []⟩ [(x, u)]) ∧
        ∀ base : Heap, (K w.params).In base → base.Ns mainGlobals mg → FnG l.prog w (K w.params) mg base k fa fd [x] (sp w))
    (due : ∀ (w : World) (H : Hp) (a : Addr) (ns : List Int), ns.length ≤ n → Only H → SqL (K w.params) H a (ns.map V.int) → sp w [.ref a] H (fun v _ => v = .bl true) E0) :
    PySem.W.WalkO q loose XP YP l.row.toRowW d [] (fun f vs => PySem.call f vs) :=
  Att.attach_call hn hdf fun w s₀ s₁ mg mb fa o pm cd doc a vs ns G Y ho hd hcd hmg hobj hints hlen hg =>
    let ⟨_, bind, FF⟩ := F w mg fa _ (hY w _ Y) G.T.g hmg
    law_callG (hY w _ Y) G.T.g G.T.b G.T.builtins G.T.nolimit hg hobj hints (Nat.le_trans hlen hn2) room FF bind fun H h1 h2 => due w H a ns hlen h1 h2
end Bx

set_option Elab.async false
set_option linter.all false
set_option maxRecDepth 100000
set_option maxHeartbeats 1000000
/-! Data of whole numbers and tuples (NestedKey), as it stands at a value. -/
namespace Bx
open PySem PySem.Spec PyProof.Rows L2

/-! the value v is the data k: numbers, tuples that are tracked -/
mutual
def Rep (H : Hp) : NestedKey → V → Prop
  | .none, v => v = .non
  | .num i, v => v = .int i
  | .text _, _ => False
  | .tup ks, v => ∃ a xs, v = .ref a ∧ H a = some (.tup xs) ∧ Reps H ks xs
def Reps (H : Hp) : List NestedKey → List V → Prop
  | [], xs => xs = []
  | k :: ks, xs => ∃ x r, xs = x :: r ∧ Rep H k x ∧ Reps H ks r
end
/-- tuples stay -/
def Tu (H H' : Hp) : Prop := ∀ a xs, H a = some (.tup xs) → H' a = some (.tup xs)
theorem Tu.refl (H : Hp) : Tu H H := fun _ _ h => h
theorem Tu.trans {H H1 H2 : Hp} (a : Tu H H1) (b : Tu H1 H2) : Tu H H2 := fun c xs h => b c xs (a c xs h)
theorem Same.tu {H H' : Hp} (h : Same H H') : Tu H H' := fun a xs e => h a _ e
theorem Tu.new {H : Hp} {p : Addr} {o : HO} (h : H p = none) : Tu H (upd H p o) := fun a xs e => by rw [upd_ne (ne_of_none e h)]; exact e
theorem Tu.lst {H : Hp} {p : Addr} {ys : List V} {o : HO} (h : H p = some (.lst ys)) : Tu H (upd H p o) := fun a xs e => by
  rw [upd_ne (ne_of e h (by intro z; cases z))]; exact e
theorem Tu.ext {H : Hp} {p : Addr} {φ : Heap → Prop} {o : HO} (h : H p = some (.ext φ)) : Tu H (upd H p o) := fun a xs e => by
  rw [upd_ne (ne_of e h (by intro z; cases z))]; exact e
mutual
theorem Rep.mono {H H' : Hp} (t : Tu H H') : ∀ {k : NestedKey} {v : V}, Rep H k v → Rep H' k v
  | .none, _, h => h
  | .num _, _, h => h
  | .text _, _, h => h.elim
  | .tup _, _, ⟨a, xs, e, h, r⟩ => ⟨a, xs, e, t a xs h, Reps.mono t r⟩
theorem Reps.mono {H H' : Hp} (t : Tu H H') : ∀ {ks : List NestedKey} {xs : List V}, Reps H ks xs → Reps H' ks xs
  | [], _, h => h
  | _ :: _, _, ⟨x, r, e, h, hr⟩ => ⟨x, r, e, Rep.mono t h, Reps.mono t hr⟩
end
mutual
theorem Rep.inj {H : Hp} : ∀ {k k' : NestedKey} {v : V}, Rep H k v → Rep H k' v → k = k'
  | .none, .none, _, _, _ => rfl
  | .num i, .num j, _, h, h' => by cases (show _ = _ from h).symm.trans (show _ = _ from h'); rfl
  | .tup ks, .tup ks', _, ⟨a, xs, e, h, r⟩, ⟨a', xs', e', h', r'⟩ => by
    cases e.symm.trans e'
    cases h.symm.trans h'
    rw [Reps.inj r r']
  | .none, .num _, _, h, h' => by cases (show _ = _ from h).symm.trans (show _ = _ from h')
  | .num _, .none, _, h, h' => by cases (show _ = _ from h).symm.trans (show _ = _ from h')
  | .none, .tup _, _, h, ⟨_, _, e, _⟩ => by cases (show _ = _ from h).symm.trans e
  | .tup _, .none, _, ⟨_, _, e, _⟩, h => by cases (show _ = _ from h).symm.trans e
  | .num _, .tup _, _, h, ⟨_, _, e, _⟩ => by cases (show _ = _ from h).symm.trans e
  | .tup _, .num _, _, ⟨_, _, e, _⟩, h => by cases (show _ = _ from h).symm.trans e
  | .text _, _, _, h, _ => h.elim
  | .none, .text _, _, _, h => h.elim
  | .num _, .text _, _, _, h => h.elim
  | .tup _, .text _, _, _, h => h.elim
theorem Reps.inj {H : Hp} : ∀ {ks ks' : List NestedKey} {xs : List V}, Reps H ks xs → Reps H ks' xs → ks = ks'
  | [], [], _, _, _ => rfl
  | [], _ :: _, _, h, ⟨_, _, e, _⟩ => by cases (show _ = _ from h).symm.trans e
  | _ :: _, [], _, ⟨_, _, e, _⟩, h => by cases (show _ = _ from h).symm.trans e
  | k :: ks, k' :: ks', _, ⟨x, r, e, h, hr⟩, ⟨x', r', e', h', hr'⟩ => by
    cases e.symm.trans e'
    rw [Rep.inj h h', Reps.inj hr hr']
end
theorem Reps.length {H : Hp} : ∀ {ks : List NestedKey} {xs : List V}, Reps H ks xs → xs.length = ks.length
  | [], _, h => by rw [show _ = _ from h]; rfl
  | _ :: _, _, ⟨x, r, e, _, hr⟩ => by rw [e, List.length_cons, List.length_cons, Reps.length hr]
theorem Reps.append {H : Hp} : ∀ {ks ks' : List NestedKey} {xs ys : List V}, Reps H ks xs → Reps H ks' ys → Reps H (ks ++ ks') (xs ++ ys)
  | [], _, _, _, h, h' => by rw [show _ = _ from h]; exact h'
  | _ :: _, _, _, _, ⟨x, r, e, h, hr⟩, h' => by rw [e]; exact ⟨x, _, rfl, h, Reps.append hr h'⟩
theorem Reps.nil {H : Hp} : Reps H [] [] := rfl
theorem Reps.cons {H : Hp} {k : NestedKey} {ks : List NestedKey} {x : V} {xs : List V} (h : Rep H k x) (hr : Reps H ks xs) : Reps H (k :: ks) (x :: xs) := ⟨x, xs, rfl, h, hr⟩
theorem Reps.snoc {H : Hp} {k : NestedKey} {ks : List NestedKey} {x : V} {xs : List V} (hr : Reps H ks xs) (h : Rep H k x) : Reps H (ks ++ [k]) (xs ++ [x]) := hr.append (.cons h .nil)
theorem Reps.get {H : Hp} : ∀ {ks : List NestedKey} {xs : List V} {i : Nat} {k : NestedKey}, Reps H ks xs → ks[i]? = some k → ∃ x, xs[i]? = some x ∧ Rep H k x
  | [], _, _, _, _, e => by simp at e
  | _ :: _, _, 0, _, ⟨x, r, e, h, _⟩, q => by
    cases q
    exact ⟨x, by rw [e]; rfl, h⟩
  | _ :: _, _, i + 1, _, ⟨x, r, e, _, hr⟩, q => by
    obtain ⟨y, h1, h2⟩ := Reps.get (i := i) hr (by simpa using q)
    exact ⟨y, by rw [e]; simpa using h1, h2⟩
theorem Reps.get' {H : Hp} {ks : List NestedKey} {xs : List V} {i : Nat} {x : V} (r : Reps H ks xs) (e : xs[i]? = some x) : ∃ k, ks[i]? = some k ∧ Rep H k x := by
  obtain ⟨hi, _⟩ := List.getElem?_eq_some_iff.mp e
  rw [r.length] at hi
  obtain ⟨y, h1, h2⟩ := r.get (List.getElem?_eq_getElem hi)
  cases h1.symm.trans e
  exact ⟨_, List.getElem?_eq_getElem hi, h2⟩
theorem Reps.take {H : Hp} : ∀ (n : Nat) {ks : List NestedKey} {xs : List V}, Reps H ks xs → Reps H (ks.take n) (xs.take n)
  | 0, _, _, _ => rfl
  | n + 1, [], _, h => by rw [show _ = _ from h]; rfl
  | n + 1, _ :: _, _, ⟨x, r, e, h, hr⟩ => by rw [e]; exact ⟨x, _, rfl, h, Reps.take n hr⟩
theorem Reps.drop {H : Hp} : ∀ (n : Nat) {ks : List NestedKey} {xs : List V}, Reps H ks xs → Reps H (ks.drop n) (xs.drop n)
  | 0, _, _, h => h
  | n + 1, [], _, h => by rw [show _ = _ from h]; rfl
  | n + 1, _ :: _, _, ⟨x, r, e, h, hr⟩ => by rw [e]; exact Reps.drop n hr
/-- numbers alone -/
theorem Reps.ints {H : Hp} : ∀ (ns : List Int), Reps H (ns.map .num) (ns.map V.int)
  | [] => rfl
  | n :: ns => ⟨_, _, rfl, rfl, Reps.ints ns⟩
theorem Reps.ints_eq {H : Hp} : ∀ {ns : List Int} {xs : List V}, Reps H (ns.map .num) xs → xs = ns.map V.int
  | [], _, h => h
  | n :: ns, _, ⟨x, r, e, h, hr⟩ => by
    rw [e, show x = _ from h, Reps.ints_eq hr]; rfl

/-! ### as the library's data -/
mutual
theorem Rep.dp {K : PySem.W.Frag} {H : Hp} : ∀ {k : NestedKey} {v : V}, Rep H k v → Dp K H v k.data
  | .none, _, h => by rw [show _ = _ from h]; exact .non
  | .num i, _, h => by rw [show _ = _ from h]; exact .int i
  | .text _, _, h => h.elim
  | .tup _, _, ⟨a, xs, e, h, r⟩ => by rw [e]; exact .tup (SqT.of h) (Reps.dp r)
theorem Reps.dp {K : PySem.W.Frag} {H : Hp} : ∀ {ks : List NestedKey} {xs : List V}, Reps H ks xs → DpAll K H xs (NestedKey.datas ks)
  | [], _, h => by rw [show _ = _ from h]; exact .nil
  | _ :: _, _, ⟨x, r, e, h, hr⟩ => by rw [e]; exact .cons (Rep.dp h) (Reps.dp hr)
end
mutual
theorem Rep.key {X : Cx} {pins : List (Addr × Obj)} {σ : L2.St} {H : Hp} {s : Shared} (I : Inv X pins σ H s) : ∀ {k : NestedKey} {v : V} {u : Value}, Rep H k v → RelV v u → NestedIs s.heap k u
  | .none, _, _, h, r => by
    cases (show _ = _ from h)
    cases r
    exact .none
  | .num i, _, _, h, r => by
    cases (show _ = _ from h)
    obtain ⟨t, rfl⟩ := r
    exact .int i t
  | .text _, _, _, h, _ => h.elim
  | .tup _, _, _, ⟨a, xs, e, h, hr⟩, r => by
    cases e
    cases r
    obtain ⟨_, its, rv, o, ho, hc, n, hd⟩ := I.hok a _ h
    exact .tup ho hc hd (Reps.key I hr rv)
theorem Reps.key {X : Cx} {pins : List (Addr × Obj)} {σ : L2.St} {H : Hp} {s : Shared} (I : Inv X pins σ H s) : ∀ {ks : List NestedKey} {xs : List V} {us : List Value}, Reps H ks xs → Vals xs us → NestedAll s.heap ks us
  | [], _, _, h, r => by
    cases (show _ = _ from h)
    cases r
    exact .nil
  | _ :: _, _, _, ⟨x, rest, e, h, hr⟩, r => by
    cases e
    cases r with
    | cons r1 r2 => exact .cons (Rep.key I h r1) (Reps.key I hr r2)
end
mutual
theorem eqv_data : ∀ a b : NestedKey, PyData.eqv a.data b.data = NestedKey.beq a b
  | .none, .none => rfl
  | .num i, .num j => by simp only [NestedKey.data, PyData.eqv, NestedKey.beq, Bool.beq_eq_decide_eq]
  | .text x, .text y => by simp only [NestedKey.data, PyData.eqv, NestedKey.beq]; exact Bool.beq_eq_decide_eq x y
  | .tup a, .tup b => by simp only [NestedKey.data, PyData.eqv, NestedKey.beq, eqvAll_data a b]
  | .none, .num _ | .none, .text _ | .none, .tup _ => rfl
  | .num _, .none | .num _, .text _ | .num _, .tup _ => rfl
  | .text _, .none | .text _, .num _ | .text _, .tup _ => rfl
  | .tup _, .none | .tup _, .num _ | .tup _, .text _ => rfl
theorem eqvAll_data : ∀ a b : List NestedKey, PyData.eqvAll (NestedKey.datas a) (NestedKey.datas b) = NestedKey.beqAll a b
  | [], [] => rfl
  | x :: xs, y :: ys => by simp only [NestedKey.datas, PyData.eqvAll, NestedKey.beqAll, eqv_data x y, eqvAll_data xs ys]
  | [], _ :: _ => rfl
  | _ :: _, [] => rfl
end
theorem beqAll_iff (a b : List NestedKey) : NestedKey.beqAll a b = decide (a = b) := by
  cases h : NestedKey.beqAll a b with
  | true => exact (decide_eq_true (NestedKey.eq_of_beqAll a b h)).symm
  | false => exact (decide_eq_false fun e => by rw [e, NestedKey.beqAll_self] at h; cases h).symm
/-! no text within -/
mutual
def plain : NestedKey → Bool
  | .none => true
  | .num _ => true
  | .text _ => false
  | .tup ks => plains ks
def plains : List NestedKey → Bool
  | [] => true
  | k :: ks => plain k && plains ks
end
mutual
theorem canLay_data : ∀ k : NestedKey, plain k = true → k.data.canLay0 = true
  | .none, _ => rfl
  | .num _, _ => rfl
  | .text _, h => by simp [plain] at h
  | .tup ks, h => by simp only [NestedKey.data, PyData.canLay0]; exact canLays_data ks (by simpa [plain] using h)
theorem canLays_data : ∀ ks : List NestedKey, plains ks = true → PyData.canLayAll0 (NestedKey.datas ks) = true
  | [], _ => rfl
  | k :: ks, h => by
    simp only [plains, Bool.and_eq_true] at h
    simp only [NestedKey.datas, PyData.canLayAll0, canLay_data k h.1, canLays_data ks h.2, Bool.and_self]
end
mutual
theorem plain_of {H : Hp} : ∀ {k : NestedKey} {v : V}, Rep H k v → plain k = true
  | .none, _, _ => rfl
  | .num _, _, _ => rfl
  | .text _, _, h => h.elim
  | .tup _, _, ⟨_, _, _, _, r⟩ => by simp only [plain]; exact plains_of r
theorem plains_of {H : Hp} : ∀ {ks : List NestedKey} {xs : List V}, Reps H ks xs → plains ks = true
  | [], _, _ => rfl
  | _ :: _, _, ⟨_, _, _, h, hr⟩ => by simp only [plains, plain_of h, plains_of hr, Bool.and_self]
end
mutual
theorem depth_data : ∀ k : NestedKey, k.data.depth = k.depth
  | .none => rfl
  | .num _ => rfl
  | .text _ => rfl
  | .tup ks => by simp only [NestedKey.data, PyData.depth, NestedKey.depth, depths_data ks]
theorem depths_data : ∀ ks : List NestedKey, PyData.depthAll (NestedKey.datas ks) = NestedKey.depthAll ks
  | [] => rfl
  | k :: ks => by simp only [NestedKey.datas, PyData.depthAll, NestedKey.depthAll, depth_data k, depths_data ks]
end
theorem depthAll_le {n : Nat} : ∀ {ks : List NestedKey}, (∀ k ∈ ks, k.depth ≤ n) → NestedKey.depthAll ks ≤ n
  | [], _ => Nat.zero_le _
  | k :: ks, h => by
    simp only [NestedKey.depthAll]
    exact Nat.max_le.mpr ⟨h k List.mem_cons_self, depthAll_le fun k' hk => h k' (List.mem_cons_of_mem _ hk)⟩

/-! ### == and != -/
section
variable {X : Cx}
/-- what two values are: data, or lists of data -/
inductive Du (K : PySem.W.Frag) (H : Hp) : V → List NestedKey ⊕ NestedKey → Prop
  | key {v : V} {k : NestedKey} (h : Rep H k v) : Du K H v (.inr k)
  | lst {a : Addr} {xs : List V} {ks : List NestedKey} (h : SqL K H a xs) (r : Reps H ks xs) : Du K H (.ref a) (.inl ks)
def duData : List NestedKey ⊕ NestedKey → PyData
  | .inl ks => .list (NestedKey.datas ks)
  | .inr k => k.data
def duDepth : List NestedKey ⊕ NestedKey → Nat
  | .inl ks => NestedKey.depthAll ks + 1
  | .inr k => k.depth
theorem Du.dp {K : PySem.W.Frag} {H : Hp} {v : V} {d : List NestedKey ⊕ NestedKey} (h : Du K H v d) : Dp K H v (duData d) := by
  cases h with
  | key h => exact h.dp
  | lst h r => exact .lst h r.dp
theorem Du.shaped {K : PySem.W.Frag} {H : Hp} {v : V} {d : List NestedKey ⊕ NestedKey} (h : Du K H v d) (hd : duDepth d ≤ 64) : SeqAt.shaped (duData d) = true := by
  unfold SeqAt.shaped
  cases h with
  | @key v k h =>
    rw [show (duData (.inr k)).canLay0 = true from canLay_data k (plain_of h)]
    rw [show (duData (.inr k)).depth = k.depth from depth_data k]
    rw [Bool.true_and]
    exact decide_eq_true hd
  | @lst a xs ks h r =>
    rw [show (duData (.inl ks)).canLay0 = true from canLays_data ks (plains_of r)]
    rw [show (duData (.inl ks)).depth = NestedKey.depthAll ks + 1 by show PyData.depthAll _ + 1 = _; rw [depths_data]]
    rw [Bool.true_and]
    exact decide_eq_true hd
theorem duEqv (d e : List NestedKey ⊕ NestedKey) : PyData.eqv (duData d) (duData e) = decide (d = e) := by
  match d, e with
  | .inl a, .inl b =>
    show PyData.eqvAll _ _ = _
    rw [eqvAll_data, beqAll_iff]
    exact decide_eq_decide.mpr ⟨fun h => by rw [h], fun h => Sum.inl.inj h⟩
  | .inr a, .inr b =>
    show PyData.eqv a.data b.data = _
    rw [eqv_data, ← NestedKey.decide_eq]
    exact decide_eq_decide.mpr ⟨fun h => by rw [h], fun h => Sum.inr.inj h⟩
  | .inl a, .inr b =>
    rw [decide_eq_false (by simp)]
    cases b <;> rfl
  | .inr a, .inl b =>
    rw [decide_eq_false (by simp)]
    cases a <;> rfl
def rEqK (K : PySem.W.Frag) : R2 := fun x y H Q => ∃ d e, Du K H x d ∧ Du K H y e ∧ duDepth d ≤ 64 ∧ duDepth e ≤ 64 ∧ Q (.bl (decide (d = e))) H
def rNeK (K : PySem.W.Frag) : R2 := fun x y H Q => ∃ d e, Du K H x d ∧ Du K H y e ∧ duDepth d ≤ 64 ∧ duDepth e ≤ 64 ∧ Q (.bl (!decide (d = e))) H
theorem op_eqK (hu : X.A.units + 64 < cLine) : OpR X (compareOp .Eq) (rEqK X.K) := by
  intro pins s σ H x y v u Q I rx ry h
  obtain ⟨d, e, hd, he, h1, h2, q⟩ := h
  exact op_eqD hu pins s σ H x y v u Q I rx ry ⟨_, _, hd.dp, he.dp, hd.shaped h1, he.shaped h2, by rw [duEqv]; exact q⟩
theorem op_neK (hu : X.A.units + 64 < cLine) : OpR X (compareOp .NotEq) (rNeK X.K) := by
  intro pins s σ H x y v u Q I rx ry h
  obtain ⟨d, e, hd, he, h1, h2, q⟩ := h
  exact op_neD hu pins s σ H x y v u Q I rx ry ⟨_, _, hd.dp, he.dp, hd.shaped h1, he.shaped h2, by rw [duEqv]; exact q⟩
/-- == and != of lists and tuples of lists: any data -/
def rEqP (K : PySem.W.Frag) : R2 := fun x y H Q => ∃ d e, Dp K H x d ∧ Dp K H y e ∧ SeqAt.shaped d = true ∧ SeqAt.shaped e = true ∧ Q (.bl (PyData.eqv d e)) H
end

/-! ### repr -/
section
variable {X : Cx}
def rRepr (K : PySem.W.Frag) : List V → Hp → VK → Prop := fun xs H Q => ∃ a d, xs = [.ref a] ∧ Dp K H (.ref a) d ∧ d.showable = true ∧ d.hasDict = false ∧ d.depth ≤ 60 ∧ d.shown.length ≤ sizeLine ∧ Q (.str d.shown) H
theorem call_repr (hg : X.A.guards = some []) (hu : X.A.units + 64 < cLine) : CallR X (.builtin "repr") (rRepr X.K) := by
  intro pins s σ H xs us Q I r h
  obtain ⟨a, d, rfl, hd, h1, h2, h3, h4, q⟩ := h
  obtain ⟨u, rfl, ru⟩ := vals1 r
  cases (show u = Value.ref a from ru)
  obtain ⟨as, rd⟩ := Dp.reads I d _ _ hd rfl
  exact repr_of_reads' rd h1 (PyData.noDict_hsm h2) hg (by omega) (fun _ _ e => e) (fun h' t tk hk => ⟨.str d.shown, H, I.kept hk, ⟨t, rfl⟩, q⟩) h4
end
end Bx

set_option Elab.async false
set_option linter.all false
set_option maxRecDepth 100000
set_option maxHeartbeats 1000000
/-! Dicts whose keys are data (nested tuples of whole numbers), over the layer. -/
namespace Bx
open PySem PySem.Spec PyProof.Rows L2

abbrev Ent := NestedKey × Addr × V
def EntRel (p : Ent) (q : NestedKey × Addr × Value) : Prop := p.1 = q.1 ∧ p.2.1 = q.2.1 ∧ RelV p.2.2 q.2.2
abbrev Ents : List Ent → List (NestedKey × Addr × Value) → Prop := Paired EntRel
/-- what stands at d: these keys (at these addresses) with these values, in this order -/
def DnP (P : Program) (w : World) (d : Addr) (xs : List Ent) (h : Heap) : Prop :=
  ∃ o es ep vs, h.get? d = some o ∧ o.ExactDict ∧ o.data = .dict es ep ∧ Ents xs vs ∧ es.toList = vs.map (entryOfKey (nestedKind P w))
structure DnC (H : Hp) (xs : List Ent) : Prop where
  keys : ∀ x ∈ xs, Rep H x.1 (.ref x.2.1) ∧ x.1.depth ≤ 8
  nd : (xs.map (·.1)).Nodup
  sz : xs.length ≤ 100000
def DnO (P : Program) (w : World) (d : Addr) (xs : List Ent) : HO := .ext (DnP P w d xs)
structure Dn (P : Program) (w : World) (H : Hp) (d : Addr) (xs : List Ent) : Prop where
  here : H d = some (DnO P w d xs)
  ns : (d == sysModules) = false
  c : DnC H xs
theorem DnC.mono {H H' : Hp} {xs : List Ent} (t : Tu H H') (c : DnC H xs) : DnC H' xs := ⟨fun x hx => ⟨(c.keys x hx).1.mono t, (c.keys x hx).2⟩, c.nd, c.sz⟩
theorem Dn.mono {P : Program} {w : World} {H H' : Hp} {d : Addr} {xs : List Ent} (D : Dn P w H d xs) (t : Tu H H') (e : H' d = H d) : Dn P w H' d xs := ⟨e.trans D.here, D.ns, D.c.mono t⟩
theorem Dn.same {P : Program} {w : World} {H H' : Hp} {d : Addr} {xs : List Ent} (D : Dn P w H d xs) (t : Same H H') : Dn P w H' d xs := ⟨t _ _ D.here, D.ns, D.c.mono (Same.tu t)⟩

theorem Ents.keys : ∀ {xs : List Ent} {vs : List (NestedKey × Addr × Value)}, Ents xs vs → vs.map (·.1) = xs.map (·.1)
  | _, _, .nil => rfl
  | _, _, .cons h t => by rw [List.map_cons, List.map_cons, ← h.1, Ents.keys t]
theorem Ents.get : ∀ {xs : List Ent} {vs : List (NestedKey × Addr × Value)} {i : Nat} {x : Ent}, Ents xs vs → xs[i]? = some x → ∃ v, vs[i]? = some v ∧ EntRel x v
  | _, _, _, _, .nil, e => by simp at e
  | _, _, 0, _, .cons h _, e => by cases e; exact ⟨_, rfl, h⟩
  | _, _, i + 1, _, .cons _ t, e => by
    obtain ⟨v, h1, h2⟩ := Ents.get (i := i) t (by simpa using e)
    exact ⟨v, by simpa using h1, h2⟩
theorem Ents.mem : ∀ {xs : List Ent} {vs : List (NestedKey × Addr × Value)} {v : NestedKey × Addr × Value}, Ents xs vs → v ∈ vs → ∃ x ∈ xs, EntRel x v
  | _, _, _, .nil, h => nomatch h
  | _, _, v, .cons h t, m => by
    rcases List.mem_cons.mp m with e | m
    · subst e
      exact ⟨_, List.mem_cons_self, h⟩
    · obtain ⟨x, hx, r⟩ := Ents.mem t m
      exact ⟨x, List.mem_cons_of_mem _ hx, r⟩
/-- the pairs alone -/
def kv (xs : List Ent) : List (NestedKey × V) := xs.map fun x => (x.1, x.2.2)
theorem Ents.at {xs : List Ent} {vs : List (NestedKey × Addr × Value)} (r : Ents xs vs) (k : NestedKey) : RelO (valV (kv xs) k) ((atKey vs k).map (·.2)) := by
  induction r with
  | nil => exact True.intro
  | @cons p q ps qs h t ih =>
    by_cases e : p.1 = k
    · have e' : q.1 = k := h.1.symm.trans e
      have b : (atKey (q :: qs) k).map (·.2) = some q.2.2 := by simp [atKey, e']
      rw [b, show valV (kv (p :: ps)) k = some p.2.2 from valV_pos (p := (p.1, p.2.2)) e]
      exact h.2.2
    · have e' : ¬ q.1 = k := fun z => e (h.1.trans z)
      have b : (atKey (q :: qs) k).map (·.2) = (atKey qs k).map (·.2) := by simp [atKey, e']
      rw [b, show valV (kv (p :: ps)) k = valV (kv ps) k from valV_neg (p := (p.1, p.2.2)) e]
      exact ih
/-- a store: in its place, or behind -/
def putE (xs : List Ent) (k : NestedKey) (a : Addr) (v : V) : List Ent :=
  if (valV (kv xs) k).isSome = true then xs.map (fun x => if x.1 = k then (x.1, x.2.1, v) else x) else xs ++ [(k, a, v)]
theorem kv_put (xs : List Ent) (k : NestedKey) (a : Addr) (v : V) : kv (putE xs k a v) = putK (kv xs) k v := by
  unfold putE putK
  rw [valV_any]
  split
  · rename_i h
    unfold kv
    rw [List.map_map, List.map_map]
    refine List.map_congr_left fun x _ => ?_
    by_cases e : x.1 = k
    · simp [e]
    · simp [e]
  · simp [kv]
theorem Ents.map {xs : List Ent} {vs : List (NestedKey × Addr × Value)} {k : NestedKey} {v : V} {u : Value} (rv : RelV v u) (r : Ents xs vs) :
    Ents (xs.map fun x => if x.1 = k then (x.1, x.2.1, v) else x) (vs.map (putAt k u)) := by
  induction r with
  | nil => exact .nil
  | @cons p q ps qs h t ih =>
    rw [List.map_cons, List.map_cons]
    refine .cons ?_ ih
    unfold putAt
    by_cases e : p.1 = k
    · rw [if_pos e, if_pos (h.1.symm.trans e)]
      exact ⟨h.1, h.2.1, rv⟩
    · rw [if_neg e, if_neg (fun z => e (h.1.trans z))]
      exact h
theorem Ents.put {xs : List Ent} {vs : List (NestedKey × Addr × Value)} {k : NestedKey} {a : Addr} {v : V} {u : Value} (rv : RelV v u) (r : Ents xs vs) : Ents (putE xs k a v) (storedH vs k a u) := by
  have q := r.at k
  have e : (valV (kv xs) k).isSome = (atKey vs k).isSome := by
    rw [q.isSome_eq, Option.isSome_map]
  unfold putE storedH
  rw [e]
  split
  · exact r.map rv
  · exact Paired.snoc r ⟨rfl, rfl, rv⟩
theorem putE_keys {xs : List Ent} {k : NestedKey} {a : Addr} {v : V} : ∀ x ∈ putE xs k a v, (∃ y ∈ xs, y.1 = x.1 ∧ y.2.1 = x.2.1) ∨ (x.1 = k ∧ x.2.1 = a) := by
  intro x hx
  unfold putE at hx
  split at hx
  · obtain ⟨y, hy, e⟩ := List.mem_map.mp hx
    by_cases h : y.1 = k
    · rw [if_pos h] at e
      subst e
      exact .inl ⟨y, hy, rfl, rfl⟩
    · rw [if_neg h] at e
      subst e
      exact .inl ⟨y, hy, rfl, rfl⟩
  · rcases List.mem_append.mp hx with hx | hx
    · exact .inl ⟨x, hx, rfl, rfl⟩
    · rw [List.mem_singleton.mp hx]
      exact .inr ⟨rfl, rfl⟩
theorem putE_len (xs : List Ent) (k : NestedKey) (a : Addr) (v : V) : (putE xs k a v).length ≤ xs.length + 1 := by
  unfold putE
  split
  · rw [List.length_map]; omega
  · rw [List.length_append, List.length_singleton]; omega

section
variable {X : Cx} {pins : List (Addr × Obj)} {σ : L2.St} {H : Hp} {s : Shared} {d : Addr} {xs : List Ent}
theorem inv_dnAt (I : Inv X pins σ H s) (h : DnP X.prog X.w d xs s.heap) (c : DnC H xs) : ∃ vs, Ents xs vs ∧ s.heap.DictOfH (nestedKind X.prog X.w) d vs := by
  obtain ⟨o, es, ep, vs, ho, hx, hd, r, he⟩ := h
  refine ⟨vs, r, o, es, ep, ho, hx, hd, he, fun v hv => ?_, by rw [r.keys]; exact c.nd⟩
  obtain ⟨x, hm, e1, e2, _⟩ := r.mem hv
  obtain ⟨k1, k2⟩ := c.keys x hm
  rw [← e1, ← e2]
  exact ⟨Rep.key I k1 rfl, k2⟩
theorem inv_dn (I : Inv X pins σ H s) (D : Dn X.prog X.w H d xs) : ∃ vs, Ents xs vs ∧ s.heap.DictOfH (nestedKind X.prog X.w) d vs :=
  inv_dnAt I (show DnP X.prog X.w d xs s.heap from (show ObjOk X.prog X.w H s.heap d (.ext (DnP X.prog X.w d xs)) from I.hok d _ D.here).1) D.c
theorem dn_ok {P : Program} {w : World} {H : Hp} {h : Heap} {vs : List (NestedKey × Addr × Value)} (r : Ents xs vs) (m : h.DictOfH (nestedKind P w) d vs) : ObjOk P w H h d (DnO P w d xs) := by
  obtain ⟨o, es, ep, ho, hx, hd, he, _, _⟩ := m
  exact ⟨⟨o, es, ep, vs, ho, hx, hd, r, he⟩, ⟨o, ho⟩, fun h1 h2 ⟨o, es, ep, vs, ho, z⟩ k => ⟨o, es, ep, vs, k o ho, z⟩⟩
end

section
variable {X : Cx}
/-! ### d[k] -/
def rIxN (P : Program) (w : World) : R2 := fun x y H Q => ∃ d xs k a v, x = .ref d ∧ y = .ref a ∧ Dn P w H d xs ∧ Rep H k (.ref a) ∧ k.depth ≤ 8 ∧ valV (kv xs) k = some v ∧ Q v H
theorem ix_dn (hu : X.A.units + 16 < cLine) : IxR X (rIxN X.prog X.w) := by
  intro value slice pins s σ H x y v u Q I rx ry h hs
  obtain ⟨d, xs, k, a, z, rfl, rfl, D, hk, h8, hv, q⟩ := h
  cases rx
  cases ry
  obtain ⟨vs, r, m⟩ := inv_dn I D
  have ra := r.at k
  rw [hv] at ra
  cases ea : atKey vs k with
  | none => rw [ea] at ra; exact ra.elim
  | some p =>
    rw [ea] at ra
    exact tail_any m.typeIs PySem.F.slot_dict_getitem.lookup (wpAny_getItem_heap (knd := nestedKind X.prog X.w) (show X.A.in1.units + 8 < cLine by show X.A.units + 1 + 8 < cLine; omega) ⟨Rep.key I hk rfl, h8⟩ m ea ⟨z, H, I.tok _, ra, q⟩) hs
/-! ### d[k] = v -/
def rPutN (P : Program) (w : World) : TSet := fun o i v H Q => ∃ d xs k a, o = .ref d ∧ i = .ref a ∧ Dn P w H d xs ∧ Rep H k (.ref a) ∧ k.depth ≤ 8 ∧ xs.length < 100000 ∧
  (Dn P w (upd H d (DnO P w d (putE xs k a v))) d (putE xs k a v) → Q (upd H d (DnO P w d (putE xs k a v))))
theorem set_dn (hu : X.A.units + 16 < cLine) : PSet X (rPutN X.prog X.w) := by
  intro pins s σ H o i v ov iv u Q I ro ri rv h
  obtain ⟨d, xs, k, a, rfl, rfl, D, hk, h8, hz, q⟩ := h
  cases ro
  cases ri
  obtain ⟨vs, r, m⟩ := inv_dn I D
  have hl : xs.length = vs.length := Paired.length r
  refine wpAny_setItem_heap (knd := nestedKind X.prog X.w) (hsz := by rw [← hl, sizeLine_eq]; omega) (show X.A.in1.units + 8 < cLine by show X.A.units + 1 + 8 < cLine; omega) ⟨Rep.key I hk rfl, h8⟩ m fun h' m' sb => ?_
  have mu : Mut (H d) := by rw [D.here]; exact True.intro
  have t : Tu H (upd H d (DnO X.prog X.w d (putE xs k a v))) := Tu.ext D.here
  have hd : (valV (kv xs) k).isSome = (atKey vs k).isSome := by rw [(r.at k).isSome_eq, Option.isSome_map]
  have nd' : ((putE xs k a v).map (·.1)).Nodup := by
    obtain ⟨_, _, _, _, _, _, _, _, n⟩ := m'
    have e := (r.put (k := k) (a := a) rv).keys
    rw [e] at n
    exact n
  have D' : Dn X.prog X.w (upd H d (DnO X.prog X.w d (putE xs k a v))) d (putE xs k a v) := by
    refine ⟨upd_same, D.ns, ⟨fun x hx => ?_, nd', ?_⟩⟩
    · rcases putE_keys x hx with ⟨y, hy, e1, e2⟩ | ⟨e1, e2⟩
      · rw [← e1, ← e2]
        exact ⟨(D.c.keys y hy).1.mono t, (D.c.keys y hy).2⟩
      · rw [e1, e2]
        exact ⟨hk.mono t, h8⟩
    · have := putE_len xs k a v
      omega
  obtain ⟨o', _, _, ho', _⟩ := id m'
  exact ⟨_, I.write (x := d) (e := d) mu (.inl rfl) (fun b ob hb e => (sb.2 b hb).trans e) ⟨o', ho'⟩ (dn_ok (r.put rv) m'), q D'⟩
/-! ### len(d), list(d) -/
def rLenN (P : Program) (w : World) : List V → Hp → VK → Prop := fun vs H Q => ∃ d xs, vs = [.ref d] ∧ Dn P w H d xs ∧ Q (.int xs.length) H
theorem call_lenN : CallR X (.builtin "len") (rLenN X.prog X.w) := by
  intro pins s σ H xs us Q I r h
  obtain ⟨d, ys, rfl, D, q⟩ := h
  obtain ⟨u, rfl, ru⟩ := vals1 r
  cases (show u = Value.ref d from ru)
  obtain ⟨vs, r, m⟩ := inv_dn I D
  obtain ⟨es, ep, hr, hs, _⟩ := m.raw
  have hl : ys.length = vs.length := Paired.length r
  have hz := D.c.sz
  refine PyProof.Rows.call_len_slot (n := ys.length) m.typeIs PySem.F.slot_dict_len (fun Q' hq => call_len_raw D.ns hr (by rw [hs, ← hl]; exact hq)) (by omega) (by omega) ?_
  exact ⟨.int ys.length, H, I.tok _, ⟨_, rfl⟩, q⟩
def rListN (P : Program) (w : World) : List V → Hp → VK → Prop := fun vs H Q => ∃ d xs, vs = [.ref d] ∧ Dn P w H d xs ∧ ∀ l, H l = none → Q (.ref l) (upd H l (.lst (xs.map fun x => .ref x.2.1)))
theorem vals_of_get : ∀ {xs : List V} {us : List Value}, xs.length = us.length → (∀ (i : Nat) (x : V) (u : Value), xs[i]? = some x → us[i]? = some u → RelV x u) → Vals xs us
  | [], [], _, _ => .nil
  | [], _ :: _, h, _ => by simp at h
  | _ :: _, [], h, _ => by simp at h
  | x :: xs, u :: us, h, r => .cons (r 0 x u rfl rfl) (vals_of_get (by simpa using h) fun i y z hy hz => r (i + 1) y z (by simpa using hy) (by simpa using hz))
theorem call_listN (hc : X.calm = true) : CallR X (.type "list") (rListN X.prog X.w) := by
  intro pins s σ H xs us Q I r h
  obtain ⟨d, ys, rfl, D, q⟩ := h
  obtain ⟨u, rfl, ru⟩ := vals1 r
  cases (show u = Value.ref d from ru)
  obtain ⟨vs, r, m⟩ := inv_dn I D
  obtain ⟨es, ep, hr, hs, hg⟩ := m.raw
  have hl : ys.length = vs.length := Paired.length r
  have hz := D.c.sz
  refine PySem.W.kdl_call (KdlSrc.rawDict (ep := ep) D.ns) (I.ok.hd hc) hr (by rw [hs, ← hl, sizeLine_eq]; omega) fun h' tk acc c k hD ha => ?_
  refine ⟨.ref s.heap.objs.size, upd H s.heap.objs.size (.lst (ys.map fun x => .ref x.2.1)), I.laid k (Nat.le_refl _) ⟨by rw [List.length_map, sizeLine_eq]; omega, acc.toList, c, ?_, ?_⟩, rfl, q _ (I.hok.fresh (Nat.le_refl _))⟩
  · refine vals_of_get (by
      have h1 : acc.toList.length = es.size := ha.1
      rw [List.length_map, hl, h1, hs]) fun i x u hx hu => ?_
    rw [List.getElem?_map] at hx
    obtain ⟨y, hy, rfl⟩ := Option.map_eq_some_iff.mp hx
    obtain ⟨hi, hv⟩ := ha.2 i u (by rw [← Array.getElem?_toList]; exact hu)
    obtain ⟨v, hv1, hv2⟩ := r.get hy
    obtain ⟨v', hv', hk, _⟩ := hg i hi
    cases hv1.symm.trans hv'
    rw [hv, hk]
    show Value.ref v.2.1 = Value.ref y.2.1
    rw [hv2.2.1]
  · rw [Array.toArray_toList]
    exact hD
end
end Bx

set_option Elab.async false
set_option linter.all false
set_option maxRecDepth 100000
set_option maxHeartbeats 2000000
/-! More of dicts with data as keys: dict(pairs), dict(d), d == e, for k, v in d.items(). -/
namespace Bx
open PySem PySem.Spec PyProof.Rows L2

section
variable {X : Cx} {pins : List (Addr × Obj)} {σ : L2.St} {H : Hp} {s : Shared}
/-- y is a pair that is this entry -/
def IsEnt (H : Hp) (y : V) (e : Ent) : Prop := ∃ t, y = .ref t ∧ H t = some (.tup [.ref e.2.1, e.2.2])
theorem pairs_read (I : Inv X pins σ H s) : ∀ {ys : List V} {es : List Ent} {its : List Value}, Paired (IsEnt H) ys es → Vals ys its →
    ∃ vs, Ents es vs ∧ vs.length = its.length ∧ ∀ (j : Nat) (v : NestedKey × Addr × Value), vs[j]? = some v → ∃ t : Addr, ys[j]? = some (V.ref t) ∧ its[j]? = some (Value.ref t) ∧ s.heap.IsTuple t #[Value.ref v.2.1, v.2.2]
  | _, _, _, .nil, .nil => ⟨[], .nil, rfl, fun _ _ e => by simp at e⟩
  | _, _, _, .cons (b := e) ⟨t, h1, h2⟩ r, .cons ru rv => by
    obtain ⟨vs, q1, q2, q3⟩ := pairs_read I r rv
    subst h1
    cases (show _ = Value.ref t from ru)
    obtain ⟨_, its2, r2, o, ho, hc, n, hd⟩ := I.hok t _ h2
    obtain ⟨u1, u2, rfl, z1, z2⟩ := vals2 r2
    cases (show u1 = Value.ref e.2.1 from z1)
    refine ⟨(e.1, e.2.1, u2) :: vs, .cons ⟨rfl, rfl, z2⟩ q1, by rw [List.length_cons, List.length_cons, q2], fun j v hv => ?_⟩
    cases j with
    | zero =>
      cases hv
      exact ⟨t, rfl, rfl, o, ho, hc, n, hd⟩
    | succ j => exact q3 j v hv
theorem storedAll_self {vs : List (NestedKey × Addr × Value)} {es : List Ent} (r : Ents es vs) (n : (es.map (·.1)).Nodup) : storedAllH [] vs = vs := storedAllH_nil_of_nodup vs (by rw [r.keys]; exact n)
theorem Inv.bigx (I : Inv X pins σ H s) : (s.heap.objs.size == sysModules) = false := beq_eq_false_iff_ne.mpr (Nat.ne_of_gt I.big)
end

section
variable {X : Cx}
/-! ### dict(list of pairs) -/
def rDictL (P : Program) (w : World) (K : PySem.W.Frag) : List V → Hp → VK → Prop := fun vs H Q => ∃ a ys es, vs = [.ref a] ∧ SqL K H a ys ∧ Paired (IsEnt H) ys es ∧ DnC H es ∧
  ∀ d, H d = none → Dn P w (upd H d (DnO P w d es)) d es → Q (.ref d) (upd H d (DnO P w d es))
theorem call_dictL (hc : X.calm = true) (hu : X.A.units + 16 < cLine) : CallR X (.type "dict") (rDictL X.prog X.w X.K) := by
  intro pins s σ H xs us Q I r h
  obtain ⟨a, ys, es, rfl, hs, hp, C, q⟩ := h
  obtain ⟨u, rfl, ru⟩ := vals1 r
  cases (show u = Value.ref a from ru)
  obtain ⟨its, rv, ⟨o, n, ho, hcl, hdi, hda⟩, hz⟩ := I.list hs
  obtain ⟨vs, q1, q2, q3⟩ := pairs_read I hp rv
  have hle : es.length = vs.length := Paired.length q1
  have hC := C.sz
  have keysok : ∀ v ∈ vs, (nestedKind X.prog X.w).is s.heap v.1 v.2.1 := fun v hv => by
    obtain ⟨x, hm, e1, e2, _⟩ := q1.mem hv
    obtain ⟨k1, k2⟩ := C.keys x hm
    rw [← e1, ← e2]
    exact ⟨Rep.key I k1 rfl, k2⟩
  refine call_dict_pairsH (knd := nestedKind X.prog X.w) (ps := vs)
    (PairArg.list a its.toArray (fun j => match ys[j]? with | some (.ref t) => t | _ => 0) (vs.map fun v => (Value.ref v.2.1, v.2.2))) (I.ok.hd hc) (show X.A.in1.in1.units + 8 < cLine by show X.A.units + 1 + 1 + 8 < cLine; omega)
    ⟨⟨o, n, ho, hcl, hdi, hda⟩, by rw [List.size_toArray, List.length_map, q2], fun j k v hj => ?_⟩ ⟨by rw [List.length_map], fun i key v hi => ?_⟩ (fun h' hk x hx => ?_) (by rw [List.length_map, ← hle, sizeLine_eq]; omega) fun h' tk hd' hk => ?_
  · rw [List.getElem?_map] at hj
    obtain ⟨v0, hv0, e⟩ := Option.map_eq_some_iff.mp hj
    cases e
    obtain ⟨t, t1, t2, t3⟩ := q3 j v0 hv0
    simp only [t1]
    exact ⟨by simpa using t2, .inl t3⟩
  · have hi' : (vs.map fun v => (Value.ref v.2.1, v.2.2))[i]? = some (key, v) := hi
    rw [List.getElem?_map] at hi'
    obtain ⟨v0, hv0, e⟩ := Option.map_eq_some_iff.mp hi'
    cases e
    exact ⟨v0.1, v0.2.1, hv0, rfl⟩
  · refine nestedKind_stays.stays (fun b ob vs' n' hb _ => hk b ob (Nat.ne_of_lt (Heap.lt_size hb)) (by simp) hb) (keysok x hx)
  · rw [storedAll_self q1 C.nd] at hd'
    have hn : H s.heap.objs.size = none := I.hok.fresh (Nat.le_refl _)
    have D' : Dn X.prog X.w (upd H s.heap.objs.size (DnO X.prog X.w s.heap.objs.size es)) s.heap.objs.size es := ⟨upd_same, Inv.bigx I, C.mono (Tu.new hn)⟩
    exact ⟨.ref s.heap.objs.size, _, I.laid (t' := tk) (fun b ob e => hk b ob (by simp) e) (Nat.le_refl _) (dn_ok q1 hd'), rfl, q _ hn D'⟩

/-! ### dict(d) -/
def rDictD (P : Program) (w : World) : List V → Hp → VK → Prop := fun vs H Q => ∃ a es, vs = [.ref a] ∧ Dn P w H a es ∧ (es.map fun x => x.1.hash w).Nodup ∧
  ∀ d, H d = none → Dn P w (upd H d (DnO P w d es)) d es → Q (.ref d) (upd H d (DnO P w d es))
theorem call_dictD (hu : X.A.units + 16 < cLine) : CallR X (.type "dict") (rDictD X.prog X.w) := by
  intro pins s σ H xs us Q I r h
  obtain ⟨a, es, rfl, D, hn, q⟩ := h
  obtain ⟨u, rfl, ru⟩ := vals1 r
  cases (show u = Value.ref a from ru)
  obtain ⟨vs, q1, m⟩ := inv_dn I D
  have hle : es.length = vs.length := Paired.length q1
  have hC := D.c.sz
  have hash_eq : vs.map (fun x => (nestedKind X.prog X.w).hash x.1) = es.map fun x => x.1.hash X.w := by
    have e := q1.keys
    have e2 := congrArg (List.map fun k : NestedKey => k.hash X.w) e
    rw [List.map_map, List.map_map] at e2
    exact e2
  refine callType_codes (Q₁ := fun obj s₁ => obj = .ref s.heap.objs.size ∧ s₁ = { s with heap := s.heap.push { cls := .type "dict", data := .dict #[] } }) PySem.F.kt_called_dict (PySem.F.kt_typeCall_dict_1 _) PySem.F.entry_dict_init (kt_code_dict_new _ ⟨rfl, rfl⟩) ?_
  rintro obj s₁ ⟨rfl, rfl⟩
  have hT : Shared.TypeIs { s with heap := s.heap.push { cls := .type "dict", data := .dict #[] } } (.ref s.heap.objs.size) "dict" := ⟨_, Heap.get?_push_size _ rfl, rfl⟩
  refine ⟨hT, PySem.F.args_dict_init_2 _ _, ?_⟩
  unfold Builtin.«dict.__init__»
  refine wpAny_bind ?_
  unfold Builtin.Dict.selfAndRest
  refine wpAny_bind (wpAny_notOrdered_dict hT (wpAny_pure ?_))
  have hne : s.heap.objs.size ≠ a := Ne.symm (Nat.ne_of_lt (Heap.DictOfH.lt_size m))
  have m2 : (s.heap.push { cls := .type "dict", data := .dict #[] }).DictOfH (nestedKind X.prog X.w) a vs := by
    obtain ⟨_, _, _, _, _, _, _, his, _⟩ := id m
    exact m.at' (fun o e => Heap.get?_push_of_some _ e) fun y hy => nestedKind_stays.stays (fun b ob _ _ hb _ => Heap.get?_push_of_some _ hb) (his y hy)
  refine updateFrom_dictH (A := X.A.in1) (knd := nestedKind X.prog X.w) (s := { s with heap := s.heap.push { cls := .type "dict", data := .dict #[] } }) .none (show X.A.in1.in1.units + 8 < cLine by show X.A.units + 1 + 1 + 8 < cLine; omega) hne D.ns (Heap.DictOfH.new s.heap) m2
    (.inr ⟨fun x hx => ?_, by rw [hash_eq]; exact hn⟩) (by rw [← hle, sizeLine_eq, List.length_nil]; omega) fun h' hd' _ sb => ?_
  · obtain ⟨_, _, _, _, _, _, _, his, _⟩ := id m2
    exact nestedKind_stays.tuple (his x hx)
  · rw [storedAll_self q1 D.c.nd] at hd'
    have hf : H s.heap.objs.size = none := I.hok.fresh (Nat.le_refl _)
    have D' : Dn X.prog X.w (upd H s.heap.objs.size (DnO X.prog X.w s.heap.objs.size es)) s.heap.objs.size es := ⟨upd_same, Inv.bigx I, D.c.mono (Tu.new hf)⟩
    refine ⟨rfl, .ref s.heap.objs.size, _, I.laid (t' := s.toks) (fun b ob e => ?_) (Nat.le_refl _) (dn_ok q1 hd'), rfl, q _ hf D'⟩
    exact (sb.2 b (Nat.ne_of_lt (Heap.lt_size e))).trans (Heap.get?_push_of_some _ e)
end

/-! ### d == e, whole numbers as values, the same keys in the same order -/
section
variable {prog : Program} {w : World} {A : Around} {E : Value → Shared → Prop} {s : Shared}
theorem samePairs_ints {nm : String} {a b : Addr} {ka kb : List (NestedKey × Addr × Value)} {f g : Nat → Int} {Q : Bool → Shared → Prop} (hu : A.units + 8 < cLine) (ha : (a == sysModules) = false) (hb : (b == sysModules) = false)
    (da : s.heap.DictOfH (nestedKind prog w) a ka) (db : s.heap.DictOfH (nestedKind prog w) b kb) (hk : kb.map (·.1) = ka.map (·.1))
    (hf : ∀ (i : Nat) (x : NestedKey × Addr × Value), ka[i]? = some x → ∃ t, x.2.2 = Value.int (f i) t) (hg : ∀ (i : Nat) (x : NestedKey × Addr × Value), kb[i]? = some x → ∃ t, x.2.2 = Value.int (g i) t)
    (h : Q (decide (∀ i, i < ka.length → f i = g i)) s) : wpAny (model prog w) A (Builtin.Dict.samePairs nm a b) Q E s := by
  obtain ⟨oa, es, ep, hoa, _, hda, hea, hisa, hna⟩ := da
  obtain ⟨ob, es', ep', hob, _, hdb, heb, hisb, hnb⟩ := db
  have la : es.size = ka.length := size_of_entries hea
  have lb : es'.size = kb.length := size_of_entries heb
  have hl : kb.length = ka.length := by simpa using congrArg List.length hk
  unfold Builtin.Dict.samePairs Builtin.Dict.showsAll
  rw [if_neg (show ¬ (a == sysModules) = true by rw [ha]; exact Bool.false_ne_true), if_neg (show ¬ (b == sysModules) = true by rw [hb]; exact Bool.false_ne_true)]
  refine wpAny_bind (wpAny_pure (wpAny_bind (wpAny_pure ?_)))
  refine wpAny_bind (wpAny_dictEntries hoa hda ?_)
  try dsimp only
  refine wpAny_bind (wpAny_dictEntries hob hdb ?_)
  have hsz : es.size = es'.size := by rw [la, lb, hl]
  rw [if_neg (by rw [hsz]; simp)]
  refine wpAny_bind (wpAny_dictEpoch hoa hda ?_)
  refine wpAny_bind ?_
  rw [Std.Legacy.Range.forIn_eq_forIn_range']
  simp only [Std.Legacy.Range.size, Nat.sub_zero, Nat.add_sub_cancel, Nat.div_one]
  refine wpAny_forIn_list _ (fun rest q s' => s' = s ∧ q = (none, ()) ∧ ∃ i, rest = List.range' i (es.size - i) ∧ i ≤ es.size ∧ ∀ j, j < i → f j = g j) _ ?_ ?_ _ _ ⟨rfl, rfl, 0, by simp, Nat.zero_le _, fun j hj => absurd hj (Nat.not_lt_zero _)⟩
  · rintro x rest q s' ⟨rfl, rfl, i, hr, hi, hpre⟩
    have hlt : i < es.size := by
      rcases Nat.lt_or_ge i es.size with h | h
      · exact h
      · rw [Nat.sub_eq_zero_of_le h] at hr; simp at hr
    obtain ⟨rfl, hrest⟩ : x = i ∧ rest = List.range' (i + 1) (es.size - (i + 1)) := by
      have e : es.size - i = (es.size - (i + 1)) + 1 := by omega
      rw [e, List.range'_succ] at hr
      injection hr with h1 h2
      exact ⟨h1, h2⟩
    have hxa : x < ka.length := by omega
    have hxb : x < kb.length := by omega
    have ea : es[x]? = some (entryOfKey (nestedKind prog w) ka[x]) := by rw [entry_at hea, List.getElem?_eq_getElem hxa]; rfl
    have eb : es'[x]? = some (entryOfKey (nestedKind prog w) kb[x]) := by rw [entry_at heb, List.getElem?_eq_getElem hxb]; rfl
    have ekey : kb[x].1 = ka[x].1 := by
      have q : (kb.map (·.1))[x]? = (ka.map (·.1))[x]? := by rw [hk]
      rw [List.getElem?_map, List.getElem?_map, List.getElem?_eq_getElem hxa, List.getElem?_eq_getElem hxb] at q
      exact Option.some.inj q
    obtain ⟨t1, v1⟩ := hf x _ (List.getElem?_eq_getElem hxa)
    obtain ⟨t2, v2⟩ := hg x _ (List.getElem?_eq_getElem hxb)
    refine wpAny_bind (wpAny_dictEntries hoa hda ?_)
    rw [ea]
    show wpAny _ _ (holding [Value.ref ka[x].2.1, ka[x].2.2] _ >>= _) _ _ _
    refine wpAny_bind (wpAny_holding (wpAny_bind ?_))
    refine wpAny_dictFind_heap (knd := nestedKind prog w) (k := ka[x].1) (xs := kb) hu (hisa _ (List.getElem_mem hxa)) hob hdb heb hisb hnb (fun hno => ?_) fun j p hj => ?_
    · refine absurd ?_ (hno x kb[x].2)
      rw [List.getElem?_eq_getElem hxb, ← ekey]
    · have hjx : j = x := idxH_unique hnb (k := ka[x].1) (p := p) (q := kb[x].2) hj (by rw [List.getElem?_eq_getElem hxb, ← ekey])
      subst hjx
      refine wpAny_bind (wpAny_dictEntries hob hdb ?_)
      rw [eb]
      show wpAny _ _ (holding [kb[j].2.2] (eqBool ka[j].2.2 kb[j].2.2)) _ _ _
      rw [v1, v2]
      refine wpAny_holding (SeqAt.EqAt.int_int (f j) t1 (g j) t2 prog w _ _ ?_)
      by_cases hfg : f j = g j
      · have eb2 : (f j == g j) = true := by rw [hfg]; simp
        rw [eb2]
        show wpAny _ _ (if (!true) = true then _ else _) _ _ _
        rw [if_neg (by decide)]
        refine wpAny_bind (wpAny_dictEpoch hoa hda ?_)
        rw [if_neg (by simp)]
        refine wpAny_pure ⟨rfl, rfl, j + 1, hrest, hlt, fun j' hj' => ?_⟩
        rcases Nat.lt_or_ge j' j with z | z
        · exact hpre j' z
        · have : j' = j := by omega
          rw [this]; exact hfg
      · have eb2 : (f j == g j) = false := by simpa using hfg
        rw [eb2]
        show wpAny _ _ (if (!false) = true then _ else _) _ _ _
        rw [if_pos (by decide)]
        have hno : decide (∀ i, i < ka.length → f i = g i) = false := decide_eq_false fun z => hfg (z j hxa)
        rw [hno] at h
        exact wpAny_pure (wpAny_pure h)
  · rintro q s' ⟨rfl, rfl, i, hr, hi, hpre⟩
    have hin : i = es.size := by
      rcases Nat.lt_or_ge i es.size with h | h
      · have e : es.size - i = (es.size - (i + 1)) + 1 := by omega
        rw [e, List.range'_succ] at hr; exact nomatch hr
      · exact Nat.le_antisymm hi h
    have hyes : decide (∀ i, i < ka.length → f i = g i) = true := decide_eq_true fun j hj => hpre j (by omega)
    rw [hyes] at h
    exact wpAny_pure h
theorem eq_dicts_ints {a b : Addr} {ka kb : List (NestedKey × Addr × Value)} {f g : Nat → Int} {Q : Value → Shared → Prop} (hu : A.units + 16 < cLine) (ha : (a == sysModules) = false) (hb : (b == sysModules) = false)
    (da : s.heap.DictOfH (nestedKind prog w) a ka) (db : s.heap.DictOfH (nestedKind prog w) b kb) (hk : kb.map (·.1) = ka.map (·.1))
    (hf : ∀ (i : Nat) (x : NestedKey × Addr × Value), ka[i]? = some x → ∃ t, x.2.2 = Value.int (f i) t) (hg : ∀ (i : Nat) (x : NestedKey × Addr × Value), kb[i]? = some x → ∃ t, x.2.2 = Value.int (g i) t)
    (h : Q (.bool (decide (∀ i, i < ka.length → f i = g i))) s) : wpAny (model prog w) A (compareOp .Eq (.ref a) (.ref b)) Q E s := by
  show wpAny (model prog w) A (richCompare .Eq (.ref a) (.ref b)) Q E s
  refine wpAny_richCompare_same_room (op := .Eq) da.typeIs db.typeIs PySem.F.slot_dict_eq (wpAny_call_entry PySem.F.slot_dict_eq da.typeIs PySem.F.entry_dict_eq ?_ (PySem.F.args_dict_eq_2 _ _)) (by omega)
  show wpAny _ _ (Builtin.Dict.dictSlotArgs "__eq__" ⟨[.ref a, .ref b], []⟩ >>= _) _ _ s
  refine wpAny_bind ?_
  unfold Builtin.Dict.dictSlotArgs
  refine wpAny_bind (wpAny_notOrdered_dict da.typeIs (wpAny_pure ?_))
  refine wpAny_bind (wpAny_isInstance (T := "dict") db.typeIs PySem.F.sub_dict_dict ?_)
  simp only [Bool.not_true, Bool.false_eq_true, if_false]
  refine wpAny_bind (wpAny_pure (wpAny_bind (wpAny_pure ?_)))
  refine wpAny_bind (samePairs_ints (A := A.in1) (show A.units + 1 + 8 < cLine by omega) ha hb da db hk hf hg ?_)
  refine wpAny_pure ⟨_, rfl, ?_, ?_⟩
  · exact fun x => nomatch x
  · simpa using h
end
section
variable {X : Cx}
/-- the values, whole numbers -/
def IntsV (xs : List Ent) (ns : List Int) : Prop := xs.map (fun x => x.2.2) = ns.map V.int
def rEqN (P : Program) (w : World) : R2 := fun x y H Q => ∃ d e xs ys ns ms, x = .ref d ∧ y = .ref e ∧ Dn P w H d xs ∧ Dn P w H e ys ∧ ys.map (·.1) = xs.map (·.1) ∧ IntsV xs ns ∧ IntsV ys ms ∧ Q (.bl (decide (ns = ms))) H
theorem op_eqN (hu : X.A.units + 16 < cLine) : OpR X (compareOp .Eq) (rEqN X.prog X.w) := by
  intro pins s σ H x y v u Q I rx ry h
  obtain ⟨d, e, xs, ys, ns, ms, rfl, rfl, D, D', hk, hn, hm, q⟩ := h
  cases rx
  cases ry
  obtain ⟨vs, r, m⟩ := inv_dn I D
  obtain ⟨vs', r', m'⟩ := inv_dn I D'
  have ln : ns.length = xs.length := by simpa using (congrArg List.length hn).symm
  have lm : ms.length = ys.length := by simpa using (congrArg List.length hm).symm
  have lk : ys.length = xs.length := by simpa using congrArg List.length hk
  have lv : xs.length = vs.length := Paired.length r
  have lv' : ys.length = vs'.length := Paired.length r'
  have val : ∀ {zs : List Ent} {ws : List (NestedKey × Addr × Value)} {ks : List Int}, IntsV zs ks → Ents zs ws → ∀ (i : Nat) (z : NestedKey × Addr × Value), ws[i]? = some z → ∃ t, z.2.2 = Value.int (ks.getD i 0) t := by
    intro zs ws ks hi hr i z hz
    have hlt : i < ws.length := (List.getElem?_eq_some_iff.mp hz).1
    have hl : zs.length = ws.length := Paired.length hr
    obtain ⟨z', e1, e2⟩ := hr.get (List.getElem?_eq_getElem (l := zs) (i := i) (by omega))
    cases e1.symm.trans hz
    have e3 : (zs.map (fun x => x.2.2))[i]? = (ks.map V.int)[i]? := by rw [show zs.map (fun x => x.2.2) = ks.map V.int from hi]
    rw [List.getElem?_map, List.getElem?_map, List.getElem?_eq_getElem (l := zs) (i := i) (by omega)] at e3
    cases hk : ks[i]? with
    | none => rw [hk] at e3; cases e3
    | some n =>
      rw [hk] at e3
      have e4 : (zs[i]'(by omega)).2.2 = .int n := Option.some.inj e3
      have r2 := e2.2.2
      rw [e4] at r2
      obtain ⟨t, ht⟩ := r2
      exact ⟨t, by rw [ht, List.getD_eq_getElem?_getD, hk]; rfl⟩
  refine eq_dicts_ints hu D.ns D'.ns m m' (by rw [r'.keys, r.keys, hk]) (val hn r) (val hm r') ⟨.bl (decide (ns = ms)), H, I, ?_, q⟩
  show Value.bool _ = Value.bool _
  congr 1
  refine decide_eq_decide.mpr ⟨fun z => List.ext_getElem (by omega) fun i h1 h2 => ?_, fun z i hi => by rw [z]⟩
  have := z i (by omega)
  rw [List.getD_eq_getElem?_getD, List.getD_eq_getElem?_getD, List.getElem?_eq_getElem h1, List.getElem?_eq_getElem h2] at this
  exact this
end
end Bx

set_option Elab.async false
set_option linter.all false
set_option maxRecDepth 100000
set_option maxHeartbeats 2000000
/-! zip of two and three lists or tuples in any mix, enumerate of either, the items of a dict with data as keys. -/
namespace Bx
open PySem PySem.Spec PyProof.Rows L2

/-- a source: a tuple (true) or a list (false), its address, its items -/
abbrev SrcQ := Bool × Addr × List V
def Src (K : PySem.W.Frag) (H : Hp) (q : SrcQ) : Prop := if q.1 = true then SqT K H q.2.1 q.2.2 else SqL K H q.2.1 q.2.2
def ItAt (h : Heap) (b : Bool) (it a : Addr) (i : Nat) : Prop := if b = true then h.IsTupleIter it a i else h.IsListIter it a i
def SqAt (h : Heap) (b : Bool) (a : Addr) (its : Array Value) : Prop := if b = true then h.IsTuple a its else h.IsList a its
def itObj (b : Bool) (a : Addr) : Obj := if b = true then { cls := .type "tuple_iterator", data := .fields #[.ref a, .int 0 0] } else { cls := .type "list_iterator", data := .fields #[.ref a, .int 0 0] }
theorem ItAt.at {h h' : Heap} {b : Bool} {it a : Addr} {i : Nat} (x : ItAt h b it a i) (k : ∀ o, h.get? it = some o → h'.get? it = some o) : ItAt h' b it a i := by
  cases b with
  | true => obtain ⟨o, e, r⟩ := (show h.IsTupleIter it a i from x); exact ⟨o, k o e, r⟩
  | false => obtain ⟨o, e, r⟩ := (show h.IsListIter it a i from x); exact ⟨o, k o e, r⟩
theorem ItAt.there {h : Heap} {b : Bool} {it a : Addr} {i : Nat} (x : ItAt h b it a i) : ∃ o, h.get? it = some o ∧ ∀ v, o.data ≠ .cell v := by
  cases b with
  | true => obtain ⟨o, e, _, d⟩ := (show h.IsTupleIter it a i from x); exact ⟨o, e, fun v q => by rw [d] at q; cases q⟩
  | false => obtain ⟨o, e, _, d⟩ := (show h.IsListIter it a i from x); exact ⟨o, e, fun v q => by rw [d] at q; cases q⟩
theorem ItAt.new {h : Heap} {b : Bool} {it a : Addr} (e : h.get? it = some (itObj b a)) : ItAt h b it a 0 := by
  cases b with
  | true => exact ⟨_, e, rfl, rfl⟩
  | false => exact ⟨_, e, rfl, rfl⟩
theorem SqAt.lt {h : Heap} {b : Bool} {a : Addr} {its : Array Value} (x : SqAt h b a its) : a < h.objs.size := by
  cases b with
  | true => obtain ⟨o, e, _⟩ := (show h.IsTuple a its from x); exact Heap.lt_size e
  | false => obtain ⟨o, e, _⟩ := (show h.IsList a its from x); exact Heap.lt_size e
theorem draws_src {prog : Program} {w : World} {A : Around} (hh : A.handled = none) (b : Bool) (it a : Addr) (hne : a ≠ it) (its : Array Value) :
    Draws prog w A it [it, a] its.size (fun i v => its[i]? = some v) (fun i h => ItAt h b it a i ∧ SqAt h b a its) := by
  cases b with
  | true => exact Draws.tuple hh it a hne its
  | false => exact Draws.list hh it a hne its
theorem begins_src (b : Bool) (a : Addr) (its : Array Value) : Begins (.ref a) (itObj b a) fun h => SqAt h b a its := by
  cases b with
  | true => exact begins_tuple a its
  | false => exact begins_list a its
theorem src_read {X : Cx} {pins : List (Addr × Obj)} {σ : L2.St} {H : Hp} {s : Shared} {q : SrcQ} (I : Inv X pins σ H s) (h : Src X.K H q) : ∃ its : List Value, Vals q.2.2 its ∧ SqAt s.heap q.1 q.2.1 its.toArray := by
  obtain ⟨b, a, xs⟩ := q
  cases b with
  | true => obtain ⟨its, r, p, _⟩ := I.tuple (show SqT X.K H a xs from h); exact ⟨its, r, p⟩
  | false => obtain ⟨its, r, p, _⟩ := I.list (show SqL X.K H a xs from h); exact ⟨its, r, p.isList⟩
/-- n turns over these; at turn i a new tuple of the i-th of each -/
def ItS (K : PySem.W.Frag) (qs : List SrcQ) (n : Nat) : It :=
  ⟨fun i H => i < n ∧ ∀ q ∈ qs, Src K H q,
    fun i H v H' => ∃ T zs, v = .ref T ∧ H T = none ∧ H' = upd H T (.tup zs) ∧ qs.map (fun q => q.2.2[i]?) = zs.map some,
    fun i H => i = n ∧ ∀ q ∈ qs, Src K H q⟩
def YTup (qs : List SrcQ) : Nat → Hp → V → Hp → Prop := fun i H v H' => ∃ T zs, v = .ref T ∧ H T = none ∧ H' = upd H T (.tup zs) ∧ qs.map (fun q => q.2.2[i]?) = zs.map some
theorem walk_src {K : PySem.W.Frag} {qs : List SrcQ} {n : Nat} : Walk (ItS K qs n) n (fun H => ∀ q ∈ qs, Src K H q) (YTup qs) :=
  ⟨fun _ _ hi q => ⟨hi, q⟩, fun _ q => ⟨rfl, q⟩, fun _ _ _ _ _ _ y => y⟩

theorem turn_zip2 {P : Program} {w : World} {K : PySem.W.Frag} {elts : List Expr} {kk : Nat} {tpos : Pos} {z TI TO i1 i2 : Addr} {q1 q2 : SrcQ} {n : Nat} (S : ZipSep2 z TI TO i1 i2 [i1, q1.2.1] [i2, q2.2.1]) (l1 : q1.2.2.length = n) (l2 : q2.2.2.length = n) (d1 : q1.2.1 ≠ i1) (d2 : q2.2.1 ≠ i2) :
    Turn P w K (.Tuple elts kk tpos) (ItS K [q1, q2] n) [z, TI, TO, i1, i2] z (fun i h => IsZip h z TI TO .none ∧ IsTupOf2 h TI (.ref i1) (.ref i2) ∧ (∃ a1 a2, IsTupOf2 h TO a1 a2) ∧ ItAt h q1.1 i1 q1.2.1 i ∧ ItAt h q2.1 i2 q2.2.1 i) where
  mem := by simp
  obj := fun i h st c hc => by
    obtain ⟨hz, hTI, ⟨x, y, hTO⟩, h1, h2⟩ := st
    have e' : c = z ∨ c = TI ∨ c = TO ∨ c = i1 ∨ c = i2 := by simpa using hc
    rcases e' with q | q | q | q | q
    · rw [q]; exact ⟨_, hz, fun v q => nomatch q⟩
    · rw [q]; exact ⟨_, hTI, fun v q => nomatch q⟩
    · rw [q]; exact ⟨_, hTO, fun v q => nomatch q⟩
    · rw [q]; exact h1.there
    · rw [q]; exact h2.there
  keep := fun i h h' st k => by
    obtain ⟨hz, hTI, ⟨x, y, hTO⟩, h1, h2⟩ := st
    exact ⟨k z (by simp) _ hz, k TI (by simp) _ hTI, ⟨x, y, k TO (by simp) _ hTO⟩, h1.at fun o q => k i1 (by simp) o q, h2.at fun o q => k i2 (by simp) o q⟩
  item := by
    intro X hP hw hK hc i pins s σ H E I hf st hg
    subst hP hw hK
    obtain ⟨hz, hTI, ⟨x0, y0, hTO⟩, h1, h2⟩ := st
    obtain ⟨hi, hq⟩ := hg
    obtain ⟨its, rv, p⟩ := src_read I (hq q1 (by simp))
    obtain ⟨its2, rv2, p2⟩ := src_read I (hq q2 (by simp))
    have hzl : z < s.heap.objs.size := Heap.lt_size hz
    have e1 := rv.length
    have e2 := rv2.length
    refine wpAny_pyNext_zipD2_item S (draws_src (prog := X.prog) (w := X.w) (A := X.A.in1) (I.ok.hd hc) q1.1 i1 q1.2.1 d1 its.toArray) (draws_src (prog := X.prog) (w := X.w) (A := X.A.in1) (I.ok.hd hc) q2.1 i2 q2.2.1 d2 its2.toArray) hz hTI hTO ⟨h1, p⟩ ⟨h2, p2⟩ (by rw [List.size_toArray]; omega) (by rw [List.size_toArray]; omega) fun u u2 h' tk g1 g2 z' TO' s1 s2 hT hsz hk => ?_
    have x1 : (q1.2.2)[i]? = some q1.2.2[i] := List.getElem?_eq_getElem (by omega)
    have x2 : (q2.2.2)[i]? = some q2.2.2[i] := List.getElem?_eq_getElem (by omega)
    obtain ⟨v1, g1', r1⟩ := rv.get x1
    obtain ⟨v2, g2', r2⟩ := rv2.get x2
    have ev1 : v1 = u := Option.some.inj (g1'.symm.trans (by simpa using g1))
    have ev2 : v2 = u2 := Option.some.inj (g2'.symm.trans (by simpa using g2))
    subst ev1 ev2
    refine ⟨_, rfl, wpAny_letOwnedTupleGo_zip (s := { s with heap := h', toks := tk }) z' fun h'' z'' sb => ?_⟩
    have hT2 : h''.get? s.heap.objs.size = some { cls := .type "tuple", data := .seq #[v1, v2] } := (sb.2 _ (Nat.ne_of_gt hzl)).trans hT
    have new : ObjOk X.prog X.w (upd H s.heap.objs.size (.tup [q1.2.2[i], q2.2.2[i]])) h'' s.heap.objs.size (.tup [q1.2.2[i], q2.2.2[i]]) :=
      ⟨by show 2 ≤ sizeLine; decide, [v1, v2], .cons r1 (.cons r2 .nil), ⟨_, hT2, rfl, _, rfl⟩⟩
    have I1 : Inv X pins σ (upd H s.heap.objs.size (.tup [q1.2.2[i], q2.2.2[i]])) { s with heap := h'', toks := tk } :=
      Inv.turnedNew (t' := tk) (ch := [z, TI, TO, i1, i2]) I (fun c o hb q => (sb.2 c (fun q' => hb (by simp [q']))).trans (hk c o (fun q' => hb (by simp [q'])) (fun q' => hb (by simp [q'])) (fun q' => hb (by simp [q'])) (fun q' => hb (by simp [q'])) q)) hf (Nat.le_refl _) new
    refine ⟨.ref s.heap.objs.size, _, I1, rfl, ⟨_, _, rfl, I.hok.fresh (Nat.le_refl _), rfl, by simp only [List.map_cons, List.map_nil, x1, x2]⟩, ⟨z'', ?_, ⟨v1, v2, ?_⟩, ?_, ?_⟩, fun c hcm => ?_⟩
    · exact (sb.2 _ S.TIz).trans (hk _ _ S.TIz S.TITO S.TIi1 S.TIi2 hTI)
    · exact (sb.2 _ S.TOz).trans TO'
    · exact s1.1.at fun o q => (sb.2 _ (Ne.symm S.zi1)).trans q
    · exact s2.1.at fun o q => (sb.2 _ (Ne.symm S.zi2)).trans q
    · have hlt : c < s.heap.objs.size := by
        have e' : c = z ∨ c = TI ∨ c = TO ∨ c = i1 ∨ c = i2 := by simpa using hcm
        rcases e' with q | q | q | q | q
        · rw [q]; exact hzl
        · rw [q]; exact Heap.lt_size hTI
        · rw [q]; exact Heap.lt_size hTO
        · rw [q]; obtain ⟨_, e, _⟩ := h1.there; exact Heap.lt_size e
        · rw [q]; obtain ⟨_, e, _⟩ := h2.there; exact Heap.lt_size e
      rw [upd_ne (Nat.ne_of_lt hlt)]
      exact (hf c hcm).1
  done := by
    intro X hP hw hK hc i pins s σ H E I hf st hg
    subst hP hw hK
    obtain ⟨hz, hTI, ⟨x0, y0, hTO⟩, h1, h2⟩ := st
    obtain ⟨hi, hq⟩ := hg
    obtain ⟨its, rv, p⟩ := src_read I (hq q1 (by simp))
    obtain ⟨its2, rv2, p2⟩ := src_read I (hq q2 (by simp))
    have e1 := rv.length
    have e2 := rv2.length
    exact wpAny_pyNext_zipD2_end S (draws_src (prog := X.prog) (w := X.w) (A := X.A.in1) (I.ok.hd hc) q1.1 i1 q1.2.1 d1 its.toArray) (draws_src (prog := X.prog) (w := X.w) (A := X.A.in1) (I.ok.hd hc) q2.1 i2 q2.2.1 d2 its2.toArray) hz hTI hTO ⟨h1, p⟩ ⟨h2, p2⟩ (by rw [List.size_toArray]; omega) (by rw [List.size_toArray]; omega) (.inl (by rw [List.size_toArray]; omega)) fun h' tk hk =>
      ⟨rfl, Inv.turnedL (t' := tk) (ch := [z, TI, TO, i1, i2]) I (fun c o hb q => hk c o (fun q' => hb (by simp [q'])) (fun q' => hb (by simp [q'])) (fun q' => hb (by simp [q'])) (fun q' => hb (by simp [q'])) q) hf⟩
  self := fun A i s Q E st h => wpAny_pyIter_zip st.1 h
theorem turn_zip3 {P : Program} {w : World} {K : PySem.W.Frag} {elts : List Expr} {kk : Nat} {tpos : Pos} {z TI TO i1 i2 i3 : Addr} {q1 q2 q3 : SrcQ} {n : Nat} (S : ZipSep3 z TI TO i1 i2 i3 [i1, q1.2.1] [i2, q2.2.1] [i3, q3.2.1]) (l1 : q1.2.2.length = n) (l2 : q2.2.2.length = n) (l3 : q3.2.2.length = n) (d1 : q1.2.1 ≠ i1) (d2 : q2.2.1 ≠ i2) (d3 : q3.2.1 ≠ i3) :
    Turn P w K (.Tuple elts kk tpos) (ItS K [q1, q2, q3] n) [z, TI, TO, i1, i2, i3] z (fun i h => IsZip h z TI TO .none ∧ IsTupOf3 h TI (.ref i1) (.ref i2) (.ref i3) ∧ (∃ a1 a2 a3, IsTupOf3 h TO a1 a2 a3) ∧ ItAt h q1.1 i1 q1.2.1 i ∧ ItAt h q2.1 i2 q2.2.1 i ∧ ItAt h q3.1 i3 q3.2.1 i) where
  mem := by simp
  obj := fun i h st c hc => by
    obtain ⟨hz, hTI, ⟨x, y, u, hTO⟩, h1, h2, h3⟩ := st
    have e' : c = z ∨ c = TI ∨ c = TO ∨ c = i1 ∨ c = i2 ∨ c = i3 := by simpa using hc
    rcases e' with q | q | q | q | q | q
    · rw [q]; exact ⟨_, hz, fun v q => nomatch q⟩
    · rw [q]; exact ⟨_, hTI, fun v q => nomatch q⟩
    · rw [q]; exact ⟨_, hTO, fun v q => nomatch q⟩
    · rw [q]; exact h1.there
    · rw [q]; exact h2.there
    · rw [q]; exact h3.there
  keep := fun i h h' st k => by
    obtain ⟨hz, hTI, ⟨x, y, u, hTO⟩, h1, h2, h3⟩ := st
    exact ⟨k z (by simp) _ hz, k TI (by simp) _ hTI, ⟨x, y, u, k TO (by simp) _ hTO⟩, h1.at fun o q => k i1 (by simp) o q, h2.at fun o q => k i2 (by simp) o q, h3.at fun o q => k i3 (by simp) o q⟩
  item := by
    intro X hP hw hK hc i pins s σ H E I hf st hg
    subst hP hw hK
    obtain ⟨hz, hTI, ⟨x0, y0, u0, hTO⟩, h1, h2, h3⟩ := st
    obtain ⟨hi, hq⟩ := hg
    obtain ⟨its, rv, p⟩ := src_read I (hq q1 (by simp))
    obtain ⟨its2, rv2, p2⟩ := src_read I (hq q2 (by simp))
    obtain ⟨its3, rv3, p3⟩ := src_read I (hq q3 (by simp))
    have hzl : z < s.heap.objs.size := Heap.lt_size hz
    have e1 := rv.length
    have e2 := rv2.length
    have e3 := rv3.length
    refine wpAny_pyNext_zipD3_item S (draws_src (prog := X.prog) (w := X.w) (A := X.A.in1) (I.ok.hd hc) q1.1 i1 q1.2.1 d1 its.toArray) (draws_src (prog := X.prog) (w := X.w) (A := X.A.in1) (I.ok.hd hc) q2.1 i2 q2.2.1 d2 its2.toArray) (draws_src (prog := X.prog) (w := X.w) (A := X.A.in1) (I.ok.hd hc) q3.1 i3 q3.2.1 d3 its3.toArray) hz hTI hTO ⟨h1, p⟩ ⟨h2, p2⟩ ⟨h3, p3⟩
      (by rw [List.size_toArray]; omega) (by rw [List.size_toArray]; omega) (by rw [List.size_toArray]; omega) fun u u2 u3 h' tk g1 g2 g3 z' TO' s1 s2 s3 hT hsz hk => ?_
    have x1 : (q1.2.2)[i]? = some q1.2.2[i] := List.getElem?_eq_getElem (by omega)
    have x2 : (q2.2.2)[i]? = some q2.2.2[i] := List.getElem?_eq_getElem (by omega)
    have x3 : (q3.2.2)[i]? = some q3.2.2[i] := List.getElem?_eq_getElem (by omega)
    obtain ⟨v1, g1', r1⟩ := rv.get x1
    obtain ⟨v2, g2', r2⟩ := rv2.get x2
    obtain ⟨v3, g3', r3⟩ := rv3.get x3
    have ev1 : v1 = u := Option.some.inj (g1'.symm.trans (by simpa using g1))
    have ev2 : v2 = u2 := Option.some.inj (g2'.symm.trans (by simpa using g2))
    have ev3 : v3 = u3 := Option.some.inj (g3'.symm.trans (by simpa using g3))
    subst ev1 ev2 ev3
    refine ⟨_, rfl, wpAny_letOwnedTupleGo_zip (s := { s with heap := h', toks := tk }) z' fun h'' z'' sb => ?_⟩
    have hT2 : h''.get? s.heap.objs.size = some { cls := .type "tuple", data := .seq #[v1, v2, v3] } := (sb.2 _ (Nat.ne_of_gt hzl)).trans hT
    have new : ObjOk X.prog X.w (upd H s.heap.objs.size (.tup [q1.2.2[i], q2.2.2[i], q3.2.2[i]])) h'' s.heap.objs.size (.tup [q1.2.2[i], q2.2.2[i], q3.2.2[i]]) :=
      ⟨by show 3 ≤ sizeLine; decide, [v1, v2, v3], .cons r1 (.cons r2 (.cons r3 .nil)), ⟨_, hT2, rfl, _, rfl⟩⟩
    have I1 : Inv X pins σ (upd H s.heap.objs.size (.tup [q1.2.2[i], q2.2.2[i], q3.2.2[i]])) { s with heap := h'', toks := tk } :=
      Inv.turnedNew (t' := tk) (ch := [z, TI, TO, i1, i2, i3]) I (fun c o hb q => (sb.2 c (fun q' => hb (by simp [q']))).trans (hk c o (fun q' => hb (by simp [q'])) (fun q' => hb (by simp [q'])) (fun q' => hb (by simp [q'])) (fun q' => hb (by simp [q'])) (fun q' => hb (by simp [q'])) q)) hf (Nat.le_refl _) new
    refine ⟨.ref s.heap.objs.size, _, I1, rfl, ⟨_, _, rfl, I.hok.fresh (Nat.le_refl _), rfl, by simp only [List.map_cons, List.map_nil, x1, x2, x3]⟩, ⟨z'', ?_, ⟨v1, v2, v3, ?_⟩, ?_, ?_, ?_⟩, fun c hcm => ?_⟩
    · exact (sb.2 _ S.TIz).trans (hk _ _ S.TIz S.TITO S.TIi1 S.TIi2 S.TIi3 hTI)
    · exact (sb.2 _ S.TOz).trans TO'
    · exact s1.1.at fun o q => (sb.2 _ (Ne.symm S.zi1)).trans q
    · exact s2.1.at fun o q => (sb.2 _ (Ne.symm S.zi2)).trans q
    · exact s3.1.at fun o q => (sb.2 _ (Ne.symm S.zi3)).trans q
    · have hlt : c < s.heap.objs.size := by
        have e' : c = z ∨ c = TI ∨ c = TO ∨ c = i1 ∨ c = i2 ∨ c = i3 := by simpa using hcm
        rcases e' with q | q | q | q | q | q
        · rw [q]; exact hzl
        · rw [q]; exact Heap.lt_size hTI
        · rw [q]; exact Heap.lt_size hTO
        · rw [q]; obtain ⟨_, e, _⟩ := h1.there; exact Heap.lt_size e
        · rw [q]; obtain ⟨_, e, _⟩ := h2.there; exact Heap.lt_size e
        · rw [q]; obtain ⟨_, e, _⟩ := h3.there; exact Heap.lt_size e
      rw [upd_ne (Nat.ne_of_lt hlt)]
      exact (hf c hcm).1
  done := by
    intro X hP hw hK hc i pins s σ H E I hf st hg
    subst hP hw hK
    obtain ⟨hz, hTI, ⟨x0, y0, u0, hTO⟩, h1, h2, h3⟩ := st
    obtain ⟨hi, hq⟩ := hg
    obtain ⟨its, rv, p⟩ := src_read I (hq q1 (by simp))
    obtain ⟨its2, rv2, p2⟩ := src_read I (hq q2 (by simp))
    obtain ⟨its3, rv3, p3⟩ := src_read I (hq q3 (by simp))
    have e1 := rv.length
    have e2 := rv2.length
    have e3 := rv3.length
    exact wpAny_pyNext_zipD3_end S (draws_src (prog := X.prog) (w := X.w) (A := X.A.in1) (I.ok.hd hc) q1.1 i1 q1.2.1 d1 its.toArray) (draws_src (prog := X.prog) (w := X.w) (A := X.A.in1) (I.ok.hd hc) q2.1 i2 q2.2.1 d2 its2.toArray) (draws_src (prog := X.prog) (w := X.w) (A := X.A.in1) (I.ok.hd hc) q3.1 i3 q3.2.1 d3 its3.toArray) hz hTI hTO ⟨h1, p⟩ ⟨h2, p2⟩ ⟨h3, p3⟩
      (by rw [List.size_toArray]; omega) (by rw [List.size_toArray]; omega) (by rw [List.size_toArray]; omega) (.inl (by rw [List.size_toArray]; omega)) fun h' tk hk =>
      ⟨rfl, Inv.turnedL (t' := tk) (ch := [z, TI, TO, i1, i2, i3]) I (fun c o hb q => hk c o (fun q' => hb (by simp [q'])) (fun q' => hb (by simp [q'])) (fun q' => hb (by simp [q'])) (fun q' => hb (by simp [q'])) (fun q' => hb (by simp [q'])) q) hf⟩
  self := fun A i s Q E st h => wpAny_pyIter_zip st.1 h
/-! ### zip(a, b), zip(a, b, c) as what a loop walks -/
def iZip2 (K : PySem.W.Frag) (ta : TA) : TI := fun σ H R => ta σ H fun vs H1 => ∃ q1 q2 n, vs = [.ref q1.2.1, .ref q2.2.1] ∧ Src K H1 q1 ∧ Src K H1 q2 ∧ q1.2.2.length = n ∧ q2.2.2.length = n ∧ R (ItS K [q1, q2] n) H1
def iZip3 (K : PySem.W.Frag) (ta : TA) : TI := fun σ H R => ta σ H fun vs H1 => ∃ q1 q2 q3 n, vs = [.ref q1.2.1, .ref q2.2.1, .ref q3.2.1] ∧ Src K H1 q1 ∧ Src K H1 q2 ∧ Src K H1 q3 ∧ q1.2.2.length = n ∧ q2.2.2.length = n ∧ q3.2.2.length = n ∧ R (ItS K [q1, q2, q3] n) H1
section
variable {X : Cx} {e e2 e3 : Expr} {ta : TA} {p pos tpos : Pos} {elts : List Expr} {kk : Nat}
theorem pi_zip2 (hg : Gl X "zip") (hm : X.mg "zip" = none) (ha : PA X [e, e2] ta)
    (hs : starEach [e, e2] X.env = (false, eval e X.env) :: starEach [e2] X.env := by rfl) (hpl : (backTo pos (starEach [e2] X.env)).any (·.1) = false := by rfl) :
    PI X (.Tuple elts kk tpos) (.Call (.Name "zip" p) [e, e2] [] pos) (iZip2 X.K ta) := by
  refine ⟨fun pins s σ H R I h => ?_⟩
  refine Call_ (ld_blt I hg hm PyProof.Rows.boot_zip (PyProof.Rows.callWith_type1 (thn (ha.run pos pins s σ H _ I h) fun us s1 ⟨vs, H1, I1, r1, q1, q2, n, ex, s1', s2', l1, l2, q⟩ => ?_) hs hpl))
  subst ex
  obtain ⟨u1, u2, rfl, r1, r2⟩ := vals2 r1
  cases (show u1 = Value.ref q1.2.1 from r1)
  cases (show u2 = Value.ref q2.2.1 from r2)
  obtain ⟨its, rv, p1⟩ := src_read I1 s1'
  obtain ⟨its2, rv2, p2⟩ := src_read I1 s2'
  have lt1 := p1.lt
  have lt2 := p2.lt
  refine zip_begins2 (begins_src q1.1 q1.2.1 its.toArray) (begins_src q2.1 q2.2.1 its2.toArray) p1 p2 fun h' hz hTI hTO h1 h2 hsz hk => wpAny_pyIter_zip hz ?_
  refine ⟨s1.heap.objs.size + 4, [s1.heap.objs.size + 4, s1.heap.objs.size + 2, s1.heap.objs.size + 3, s1.heap.objs.size, s1.heap.objs.size + 1], _, _, H1, rfl, I1.kept (t' := s1.toks) hk,
    turn_zip2 (zip_sep2 (fp1 := [q1.2.1]) (fp2 := [q2.2.1]) (fun b hb => by rw [List.mem_singleton.mp hb]; exact lt1) (fun b hb => by rw [List.mem_singleton.mp hb]; exact lt2)) l1 l2 (Nat.ne_of_lt lt1) (Nat.ne_of_lt (Nat.lt_succ_of_lt lt2)),
    ⟨hz, hTI, ⟨_, _, hTO⟩, ItAt.new h1, ItAt.new h2⟩, fun c hcm => ?_, q⟩
  have e' : c = s1.heap.objs.size + 4 ∨ c = s1.heap.objs.size + 2 ∨ c = s1.heap.objs.size + 3 ∨ c = s1.heap.objs.size ∨ c = s1.heap.objs.size + 1 := by simpa using hcm
  have hle : s1.heap.objs.size ≤ c := by
    rcases e' with z | z | z | z | z
    · rw [z]; exact Nat.le_add_right _ _
    · rw [z]; exact Nat.le_add_right _ _
    · rw [z]; exact Nat.le_add_right _ _
    · rw [z]; exact Nat.le_refl _
    · rw [z]; exact Nat.le_add_right _ _
  exact I1.fpOk hle (I1.hok.fresh hle)
theorem vals3 {x y z : V} {us : List Value} (r : Vals [x, y, z] us) : ∃ u v w, us = [u, v, w] ∧ L2.RelV x u ∧ L2.RelV y v ∧ L2.RelV z w := by
  cases r with
  | cons r1 r =>
    cases r with
    | cons r2 r =>
      cases r with
      | cons r3 r =>
        cases r
        exact ⟨_, _, _, rfl, r1, r2, r3⟩
theorem callWith_type3 {prog : Program} {w : World} {A : Around} {E : Value → Shared → Prop} {s : Shared} {T : String} {env : Env} {pos : Pos} {e e2 e3 : Expr} {Q : Value → Shared → Prop}
    (h : wpAny (model prog w) A (spliced (backTo pos (starEach [e, e2, e3] env))) (fun us s' => wpAny (model prog w) A (call (.type T) us) Q E s') E s)
    (hs : starEach [e, e2, e3] env = (false, eval e env) :: starEach [e2, e3] env) (hpl : (backTo pos (starEach [e2, e3] env)).any (·.1) = false) :
    wpAny (model prog w) A (callWith pos (.type T) [] (backTo pos (starEach [e, e2, e3] env)) (backToKw pos (keywordEach [] env))) Q E s :=
  PyProof.Rows.callWith_type1 h hs hpl
theorem pi_zip3 (hg : Gl X "zip") (hm : X.mg "zip" = none) (ha : PA X [e, e2, e3] ta)
    (hs : starEach [e, e2, e3] X.env = (false, eval e X.env) :: starEach [e2, e3] X.env := by rfl) (hpl : (backTo pos (starEach [e2, e3] X.env)).any (·.1) = false := by rfl) :
    PI X (.Tuple elts kk tpos) (.Call (.Name "zip" p) [e, e2, e3] [] pos) (iZip3 X.K ta) := by
  refine ⟨fun pins s σ H R I h => ?_⟩
  refine Call_ (ld_blt I hg hm PyProof.Rows.boot_zip (PyProof.Rows.callWith_type1 (thn (ha.run pos pins s σ H _ I h) fun us s1 ⟨vs, H1, I1, r1, q1, q2, q3, n, ex, s1', s2', s3', l1, l2, l3, q⟩ => ?_) hs hpl))
  subst ex
  obtain ⟨u1, u2, u3, rfl, r1, r2, r3⟩ := vals3 r1
  cases (show u1 = Value.ref q1.2.1 from r1)
  cases (show u2 = Value.ref q2.2.1 from r2)
  cases (show u3 = Value.ref q3.2.1 from r3)
  obtain ⟨its, rv, p1⟩ := src_read I1 s1'
  obtain ⟨its2, rv2, p2⟩ := src_read I1 s2'
  obtain ⟨its3, rv3, p3⟩ := src_read I1 s3'
  have lt1 := p1.lt
  have lt2 := p2.lt
  have lt3 := p3.lt
  refine zip_begins3 (begins_src q1.1 q1.2.1 its.toArray) (begins_src q2.1 q2.2.1 its2.toArray) (begins_src q3.1 q3.2.1 its3.toArray) p1 p2 p3 fun h' hz hTI hTO h1 h2 h3 hsz hk => wpAny_pyIter_zip hz ?_
  refine ⟨s1.heap.objs.size + 5, [s1.heap.objs.size + 5, s1.heap.objs.size + 3, s1.heap.objs.size + 4, s1.heap.objs.size, s1.heap.objs.size + 1, s1.heap.objs.size + 2], _, _, H1, rfl, I1.kept (t' := s1.toks) hk,
    turn_zip3 (zip_sep3 (fp1 := [q1.2.1]) (fp2 := [q2.2.1]) (fp3 := [q3.2.1]) (fun b hb => by rw [List.mem_singleton.mp hb]; exact lt1) (fun b hb => by rw [List.mem_singleton.mp hb]; exact lt2) (fun b hb => by rw [List.mem_singleton.mp hb]; exact lt3)) l1 l2 l3
      (Nat.ne_of_lt lt1) (Nat.ne_of_lt (Nat.lt_succ_of_lt lt2)) (Nat.ne_of_lt (Nat.lt_succ_of_lt (Nat.lt_succ_of_lt lt3))),
    ⟨hz, hTI, ⟨_, _, _, hTO⟩, ItAt.new h1, ItAt.new h2, ItAt.new h3⟩, fun c hcm => ?_, q⟩
  have e' : c = s1.heap.objs.size + 5 ∨ c = s1.heap.objs.size + 3 ∨ c = s1.heap.objs.size + 4 ∨ c = s1.heap.objs.size ∨ c = s1.heap.objs.size + 1 ∨ c = s1.heap.objs.size + 2 := by simpa using hcm
  have hle : s1.heap.objs.size ≤ c := by
    rcases e' with z | z | z | z | z | z
    · rw [z]; exact Nat.le_add_right _ _
    · rw [z]; exact Nat.le_add_right _ _
    · rw [z]; exact Nat.le_add_right _ _
    · rw [z]; exact Nat.le_refl _
    · rw [z]; exact Nat.le_add_right _ _
    · rw [z]; exact Nat.le_add_right _ _
  exact I1.fpOk hle (I1.hok.fresh hle)
end
end Bx

set_option Elab.async false
set_option linter.all false
set_option maxRecDepth 100000
set_option maxHeartbeats 2000000
/-! enumerate of a list or a tuple; for k, v in d.items(); dict(zip(list, tuple)). -/
namespace Bx
open PySem PySem.Spec PyProof.Rows L2

/-! ### enumerate(v), one argument -/
set_option maxHeartbeats 2000000 in
theorem meets_enumerate1 {v : Value} {o : Obj} {H : Heap → Prop} (B : Begins v o H) :
    Meets (Builtin.«enumerate.__new__» ⟨[.type "enumerate", v], []⟩) (fun _ R s => H s.heap ∧
      R (.ok (.ret (.ref (s.heap.push o).objs.size))) { s with heap := (s.heap.push o).push { cls := .type "enumerate", data := .fields #[.none, .bool false, .ref s.heap.objs.size, rawInt 0, .none, .none] } }) :=
  .of_wp fun prog w A R s h => by
    obtain ⟨hp, g, d, tk, os⟩ := s
    obtain ⟨h1, h⟩ := h
    have hsub := sub_enumerate
    have q1 : ∀ {A' : Around} {E : Value → Shared → Prop} {Q : Value → Shared → Prop}, Q (.ref hp.objs.size) ⟨hp.push o, g, d, tk, os⟩ → wpAny (model prog w) A' (pyIter v) Q E ⟨hp, g, d, tk, os⟩ :=
      fun q => B.iter prog w _ _ ⟨hp, g, d, tk, os⟩ _ h1 q
    wp_walk using q1
    refine wpAny_stack_any fun st => wpAny_pure ?_
    split
    · rename_i c _ _ _ _ _
      cases (c == Value.type "enumerate") <;> (wp_walk using q1; exact ⟨_, rfl, h⟩)
    · wp_walk using q1
      exact ⟨_, rfl, h⟩
section
variable {prog : Program} {w : World} {A : Around} {E : Value → Shared → Prop} {s : Shared}
theorem enum1_begins {v : Value} {o : Obj} {H : Heap → Prop} {Q : Value → Shared → Prop} (B : Begins v o H) (h1 : H s.heap)
    (h : ∀ h', IsEnum h' (s.heap.objs.size + 1) s.heap.objs.size 0 .none → h'.get? s.heap.objs.size = some o → (∀ b o, s.heap.get? b = some o → h'.get? b = some o) → Q (.ref (s.heap.objs.size + 1)) { s with heap := h' }) :
    wpAny (model prog w) A (call (.type "enumerate") [v]) Q E s := by
  refine callType_new PySem.F.called_enumerate (by decide) (PySem.F.typeCall_enumerate_1 _) (PySem.F.newCall_enumerate_1 _) (fun obj => PySem.F.args_object_init_2 obj _) PySem.F.entry_enumerate_new (meets_enumerate1 B) ⟨h1, ?_⟩
  have hz : (s.heap.push o).objs.size = s.heap.objs.size + 1 := Heap.size_push ..
  show _ ∧ _
  rw [hz]
  have he : IsEnum ((s.heap.push o).push { cls := .type "enumerate", data := .fields #[.none, .bool false, .ref s.heap.objs.size, rawInt 0, .none, .none] }) (s.heap.objs.size + 1) s.heap.objs.size 0 .none := by
    have := Heap.get?_push_size (s.heap.push o) (o := { cls := .type "enumerate", data := .fields #[.none, .bool false, .ref s.heap.objs.size, rawInt 0, .none, .none] }) rfl
    rw [hz] at this
    exact this
  exact ⟨⟨_, he, rfl⟩, h _ he (Heap.get?_push_of_some _ (Heap.get?_push_size _ B.free)) fun b o x => Heap.get?_push_of_some _ (Heap.get?_push_of_some _ x)⟩
end
def ItE (K : PySem.W.Frag) (q : SrcQ) (n : Nat) : It :=
  ⟨fun i H => i < n ∧ Src K H q, fun i H v H' => ∃ T x, v = .ref T ∧ H T = none ∧ H' = upd H T (.tup [.int (i : Nat), x]) ∧ q.2.2[i]? = some x, fun i H => i = n ∧ Src K H q⟩
theorem walk_enumS {K : PySem.W.Frag} {q : SrcQ} {n : Nat} : Walk (ItE K q n) n (fun H => Src K H q) (fun i H v H' => ∃ T x, v = .ref T ∧ H T = none ∧ H' = upd H T (.tup [.int (i : Nat), x]) ∧ q.2.2[i]? = some x) :=
  ⟨fun _ _ hi q => ⟨hi, q⟩, fun _ q => ⟨rfl, q⟩, fun _ _ _ _ _ _ y => y⟩
theorem turn_enumS {P : Program} {w : World} {K : PySem.W.Frag} {elts : List Expr} {kk : Nat} {tpos : Pos} {e it : Addr} {q : SrcQ} {n : Nat} (l1 : q.2.2.length = n) (hei : e ≠ it) (d1 : q.2.1 ≠ it) (d2 : q.2.1 ≠ e) :
    Turn P w K (.Tuple elts kk tpos) (ItE K q n) [e, it] e (fun i h => (∃ old, IsEnum h e it ((0 : Int) + (i : Nat)) old) ∧ ItAt h q.1 it q.2.1 i) where
  mem := by simp
  obj := fun i h st c hc => by
    obtain ⟨⟨old, he⟩, h1⟩ := st
    have e' : c = e ∨ c = it := by simpa using hc
    rcases e' with q | q
    · rw [q]; exact ⟨_, he, fun v q => nomatch q⟩
    · rw [q]; exact h1.there
  keep := fun i h h' st k => ⟨⟨st.1.choose, k e (by simp) _ st.1.choose_spec⟩, st.2.at fun o q => k it (by simp) o q⟩
  item := by
    intro X hP hw hK hc i pins s σ H E I hf st hg
    subst hP hw hK
    obtain ⟨⟨old, he⟩, h1⟩ := st
    obtain ⟨hi, hq⟩ := hg
    obtain ⟨its, rv, p⟩ := src_read I hq
    have e1 := rv.length
    have hel : e < s.heap.objs.size := Heap.lt_size he
    refine wpAny_pyNext_enum_itemC (draws_src (prog := X.prog) (w := X.w) (A := X.A.in1) (I.ok.hd hc) q.1 it q.2.1 d1 its.toArray) he ⟨h1, p⟩ (by rw [List.size_toArray]; omega) hei (by simp [hei, d2.symm]) fun u h' tk g1 ho s1 hT hsz hk => ?_
    have x1 : (q.2.2)[i]? = some q.2.2[i] := List.getElem?_eq_getElem (by omega)
    obtain ⟨v1, g1', r1⟩ := rv.get x1
    have ev1 : v1 = u := Option.some.inj (g1'.symm.trans (by simpa using g1))
    subst ev1
    refine ⟨_, rfl, wpAny_letOwnedTupleGo_enum (s := { s with heap := h', toks := tk + 1 }) ho fun h'' he'' sb => ?_⟩
    have hT2 : h''.get? s.heap.objs.size = some { cls := .type "tuple", data := .seq #[.int ((0 : Int) + (i : Nat)) tk, v1] } := (sb.2 _ (Nat.ne_of_gt hel)).trans hT
    have new : ObjOk X.prog X.w (upd H s.heap.objs.size (.tup [.int (i : Nat), q.2.2[i]])) h'' s.heap.objs.size (.tup [.int (i : Nat), q.2.2[i]]) :=
      ⟨by show 2 ≤ sizeLine; decide, [.int ((0 : Int) + (i : Nat)) tk, v1], .cons ⟨tk, by rw [Int.zero_add]⟩ (.cons r1 .nil), ⟨_, hT2, rfl, _, rfl⟩⟩
    have I1 : Inv X pins σ (upd H s.heap.objs.size (.tup [.int (i : Nat), q.2.2[i]])) { s with heap := h'', toks := tk + 1 } :=
      Inv.turnedNew (t' := tk + 1) (ch := [e, it]) I (fun c o hb z => (sb.2 c (fun q' => hb (by simp [q']))).trans (hk c o (fun q' => hb (by simp [q'])) (fun q' => hb (by simp [q'])) z)) hf (Nat.le_refl _) new
    refine ⟨.ref s.heap.objs.size, _, I1, rfl, ⟨_, _, rfl, I.hok.fresh (Nat.le_refl _), rfl, x1⟩, ⟨⟨v1, ?_⟩, ?_⟩, fun c hcm => ?_⟩
    · have e3 : (0 : Int) + ((i + 1 : Nat) : Int) = (0 : Int) + (i : Nat) + 1 := by omega
      rw [e3]
      exact he''
    · exact s1.1.at fun o z => (sb.2 _ (Ne.symm hei)).trans z
    · have hlt : c < s.heap.objs.size := by
        have e' : c = e ∨ c = it := by simpa using hcm
        rcases e' with z | z
        · rw [z]; exact hel
        · rw [z]; obtain ⟨_, y, _⟩ := h1.there; exact Heap.lt_size y
      rw [upd_ne (Nat.ne_of_lt hlt)]
      exact (hf c hcm).1
  done := by
    intro X hP hw hK hc i pins s σ H E I hf st hg
    subst hP hw hK
    obtain ⟨⟨old, he⟩, h1⟩ := st
    obtain ⟨hi, hq⟩ := hg
    obtain ⟨its, rv, p⟩ := src_read I hq
    have e1 := rv.length
    have en : i = its.toArray.size := by rw [List.size_toArray]; omega
    rw [en] at h1
    exact wpAny_pyNext_enum_endD (draws_src (prog := X.prog) (w := X.w) (A := X.A.in1) (I.ok.hd hc) q.1 it q.2.1 d1 its.toArray) he ⟨h1, p⟩ fun h' hk =>
      ⟨rfl, Inv.turnedL (t' := s.toks) (ch := [e, it]) I (fun c o hb z => hk c o (fun q' => hb (by simp [q'])) z) hf⟩
  self := fun A i s Q E st h => let ⟨⟨old, he⟩, _⟩ := st; wpAny_pyIter_enum he h
def iEnumS (K : PySem.W.Frag) (ta : TA) : TI := fun σ H R => ta σ H fun vs H1 => ∃ q n, vs = [.ref q.2.1] ∧ Src K H1 q ∧ q.2.2.length = n ∧ R (ItE K q n) H1
theorem pi_enumS {X : Cx} {e : Expr} {ta : TA} {p pos tpos : Pos} {elts : List Expr} {kk : Nat} (hg : Gl X "enumerate") (hm : X.mg "enumerate" = none) (ha : PA X [e] ta) (hs : starEach [e] X.env = [(false, eval e X.env)] := by rfl) :
    PI X (.Tuple elts kk tpos) (.Call (.Name "enumerate" p) [e] [] pos) (iEnumS X.K ta) := by
  refine ⟨fun pins s σ H R I h => ?_⟩
  refine Call_ (ld_blt I hg hm boot_enumerate (PyProof.Rows.callWith_type1 (thn (ha.run pos pins s σ H _ I h) fun us s1 ⟨vs, H1, I1, r1, q, n, ex, hq, l1, z⟩ => ?_) hs rfl))
  subst ex
  obtain ⟨u, rfl, r⟩ := vals1 r1
  cases (show u = Value.ref q.2.1 from r)
  obtain ⟨its, rv, p1⟩ := src_read I1 hq
  have lt1 := p1.lt
  refine enum1_begins (begins_src q.1 q.2.1 its.toArray) p1 fun h' he hit hk => wpAny_pyIter_enum he ?_
  refine ⟨s1.heap.objs.size + 1, [s1.heap.objs.size + 1, s1.heap.objs.size], _, _, H1, rfl, I1.kept (t' := s1.toks) hk, turn_enumS l1 (Nat.succ_ne_self _) (Nat.ne_of_lt lt1) (Nat.ne_of_lt (Nat.lt_succ_of_lt lt1)), ⟨⟨_, he⟩, ItAt.new hit⟩, fun c hcm => ?_, z⟩
  have e' : c = s1.heap.objs.size + 1 ∨ c = s1.heap.objs.size := by simpa using hcm
  have hle : s1.heap.objs.size ≤ c := by
    rcases e' with z | z
    · rw [z]; exact Nat.le_add_right _ _
    · rw [z]; exact Nat.le_refl _
  exact I1.fpOk hle (I1.hok.fresh hle)

/-! ### d.items(), d locked -/
def ItN (P : Program) (w : World) (d : Addr) (od : Obj) (xs : List Ent) : It :=
  ⟨fun i H => H d = some (.frz od (DnO P w d xs)) ∧ i < xs.length, fun i H v H' => ∃ T x, v = .ref T ∧ H T = none ∧ H' = upd H T (.tup [.ref x.2.1, x.2.2]) ∧ xs[i]? = some x, fun i H => H d = some (.frz od (DnO P w d xs)) ∧ i = xs.length⟩
theorem walk_itemsN {P : Program} {w : World} {d : Addr} {od : Obj} {xs : List Ent} : Walk (ItN P w d od xs) xs.length (fun H => H d = some (.frz od (DnO P w d xs))) (fun i H v H' => ∃ T x, v = .ref T ∧ H T = none ∧ H' = upd H T (.tup [.ref x.2.1, x.2.2]) ∧ xs[i]? = some x) :=
  ⟨fun _ _ hi q => ⟨q, hi⟩, fun _ q => ⟨q, rfl⟩, fun _ _ _ _ _ _ y => y⟩
theorem frzN {X : Cx} {pins : List (Addr × Obj)} {σ : L2.St} {H : Hp} {s : Shared} {d : Addr} {od : Obj} {xs : List Ent} (I : Inv X pins σ H s) (h : H d = some (.frz od (DnO X.prog X.w d xs))) :
    s.heap.get? d = some od ∧ ∃ es ep vs, od.ExactDict ∧ od.data = .dict es ep ∧ Ents xs vs ∧ es.toList = vs.map (entryOfKey (nestedKind X.prog X.w)) := by
  obtain ⟨e, ⟨o, es, ep, vs, ho, hx, hd, r, he⟩, _⟩ := I.hok d _ h
  cases e.symm.trans ho
  exact ⟨e, es, ep, vs, hx, hd, r, he⟩
theorem turn_itemsN {P : Program} {w : World} {K : PySem.W.Frag} {elts : List Expr} {kk : Nat} {tpos : Pos} {d : Addr} {od : Obj} {xs : List Ent} {es0 : Array DictEntry} {ep : Nat} (it : Addr) (hod : od.data = .dict es0 ep) :
    Turn P w K (.Tuple elts kk tpos) (ItN P w d od xs) [it] it (fun i h => ∃ ok ov, IsItemIter h it d i xs.length ep ok ov) where
  mem := by simp
  obj := fun i h st b hb => by
    have e : b = it := by simpa using hb
    subst e
    obtain ⟨ok, ov, e⟩ := st
    exact ⟨_, e, fun v z => nomatch z⟩
  keep := fun i h h' st k => let ⟨ok, ov, e⟩ := st; ⟨ok, ov, k it (by simp) _ e⟩
  item := by
    intro X hP hw hK hc i pins s σ H E I hf st hg
    subst hP hw hK
    obtain ⟨hd, hi⟩ := hg
    obtain ⟨e0, es, ep', vs, hx, hdt, r, he⟩ := frzN I hd
    obtain ⟨rfl, rfl⟩ : es0 = es ∧ ep = ep' := by
      rw [hod] at hdt
      injection hdt with a b
      exact ⟨a, b⟩
    have hl : xs.length = vs.length := Paired.length r
    have hz : es0.size = vs.length := size_of_entries he
    obtain ⟨ok, ov, hit⟩ := st
    rw [hl, ← hz] at hit
    have hlt : it < s.heap.objs.size := Heap.lt_size hit
    have hi' : i < es0.size := by omega
    refine wpAny_pyNext_items_item_raw hit ⟨od, e0, hx, hdt⟩ hi' fun h' ho hT hsz hk => ?_
    refine ⟨_, rfl, wpAny_letOwnedTupleGo_items (s := { s with heap := h' }) ho fun h'' he' sb => ?_⟩
    have x1 : xs[i]? = some xs[i] := List.getElem?_eq_getElem hi
    obtain ⟨v, hv, rel⟩ := r.get x1
    have ee : es0[i] = entryOfKey (nestedKind X.prog X.w) v := by
      have q := entry_at he i
      rw [hv, Array.getElem?_eq_getElem hi'] at q
      exact Option.some.inj q
    have k1 : es0[i].key = Value.ref xs[i].2.1 := by
      rw [ee]
      show Value.ref v.2.1 = _
      rw [rel.2.1]
    have k2 : L2.RelV xs[i].2.2 es0[i].val := by
      rw [ee]
      exact rel.2.2
    have hT2 : h''.get? s.heap.objs.size = some { cls := .type "tuple", data := .seq #[es0[i].key, es0[i].val] } := (sb.2 _ (Nat.ne_of_gt hlt)).trans hT
    have new : ObjOk X.prog X.w (upd H s.heap.objs.size (.tup [.ref xs[i].2.1, xs[i].2.2])) h'' s.heap.objs.size (.tup [.ref xs[i].2.1, xs[i].2.2]) :=
      ⟨by show 2 ≤ sizeLine; decide, [es0[i].key, es0[i].val], .cons k1 (.cons k2 .nil), ⟨_, hT2, rfl, _, rfl⟩⟩
    have I1 : Inv X pins σ (upd H s.heap.objs.size (.tup [.ref xs[i].2.1, xs[i].2.2])) { s with heap := h'' } :=
      Inv.turnedNew (t' := s.toks) (ch := [it]) I (fun b ob hb e => (sb.2 b (by simpa using hb)).trans (hk b ob (by simpa using hb) e)) hf (Nat.le_refl _) new
    refine ⟨.ref s.heap.objs.size, _, I1, rfl, ⟨_, xs[i], rfl, I.hok.fresh (Nat.le_refl _), rfl, x1⟩, ⟨es0[i].key, es0[i].val, ?_⟩, fun b hb => ?_⟩
    · rw [hl, ← hz]; exact he'
    · have e : b = it := by simpa using hb
      rw [e, upd_ne (Nat.ne_of_lt hlt)]
      exact (hf it (by simp)).1
  done := by
    intro X hP hw hK hc i pins s σ H E I hf st hg
    subst hP hw hK
    obtain ⟨hd, hi⟩ := hg
    obtain ⟨f0, f1, f2, f3, f4, f5⟩ := hf it (by simp)
    obtain ⟨e0, es, ep', vs, hx, hdt, r, he⟩ := frzN I hd
    obtain ⟨rfl, rfl⟩ : es0 = es ∧ ep = ep' := by
      rw [hod] at hdt
      injection hdt with a b
      exact ⟨a, b⟩
    have hl : xs.length = vs.length := Paired.length r
    have hz : es0.size = vs.length := size_of_entries he
    obtain ⟨ok, ov, hit⟩ := st
    rw [hl, ← hz] at hit
    exact wpAny_pyNext_items_end_raw (I.ok.hd hc) hit ⟨od, e0, hx, hdt⟩ (by omega) fun h' eb => ⟨rfl, I.turned (t' := s.toks) (fun b ob hb e => eb b ob hb e) f0 f1 f3 f4 f5⟩
  self := fun A i s Q E st h => let ⟨_, _, e⟩ := st; wpAny_pyIter_itemiter e h
def iItemsN (P : Program) (w : World) (td : TE) : TI := fun σ H R => td σ H fun x H1 => ∃ d od xs, x = .ref d ∧ H1 d = some (.frz od (DnO P w d xs)) ∧ (d == sysModules) = false ∧ R (ItN P w d od xs) H1
theorem pi_itemsN {X : Cx} {e : Expr} {td : TE} {apos cpos tpos : Pos} {elts : List Expr} {kk : Nat} (he : PE X e td) (hbase : attributeBase e "items" X.env (eval e X.env) = eval e X.env := by rfl) (hline : (apos.endLine == cpos.line) = true := by rfl) :
    PI X (.Tuple elts kk tpos) (.Call (.Attribute e "items" apos) [] [] cpos) (iItemsN X.prog X.w td) := by
  refine ⟨fun pins s σ H R I h => ?_⟩
  refine wpAny_Call_method (T := "dict") (id := "dict.items") hbase rfl hline PySem.F.plainAttrs_dict PySem.F.slot_dict_items PySem.F.type_dict_items (thn (he.run pins s σ H _ I h) fun u s1 ⟨x, H1, I1, rx, d, od, xs, ex, hd, hs, q⟩ => ?_)
  subst ex
  cases (show u = Value.ref d from rx)
  obtain ⟨e0, es, ep, vs, hx, hdt, r, hes⟩ := frzN I1 hd
  have hr : s1.heap.DictRaw d es ep := ⟨od, e0, hx, hdt⟩
  have hl : xs.length = es.size := by rw [size_of_entries hes]; exact Paired.length r
  refine ⟨hr.typeIs, fun b eb => by cases eb; exact ⟨od, e0, hx.2.1⟩, ?_⟩
  have I2 : Inv X pins σ H1 { s1 with heap := s1.heap.push { cls := .type "dict_items", data := .fields #[.ref d] } } := I1.kept (t' := s1.toks) fun b ob q => Heap.get?_push_of_some _ q
  have fin : wpAny (model X.prog X.w) X.A (pyIter (.ref s1.heap.objs.size)) (PIE X pins σ (.Tuple elts kk tpos) R) X.xe { s1 with heap := s1.heap.push { cls := .type "dict_items", data := .fields #[.ref d] } } := by
    refine wpAny_pyIter_items_raw (d := d) ⟨_, Heap.get?_push_size _ rfl, rfl, rfl⟩ (hr.at fun o q => Heap.get?_push_of_some _ q) (pi_one (tk := s1.toks) I2 _ (turn_itemsN _ hdt) ⟨.none, .none, ?_⟩ q)
    rw [hl]
    exact Heap.get?_push_size _ rfl
  show wpAny _ _ (callWith cpos (.builtin "dict.items") [.ref d] [] []) _ X.xe s1
  exact method_meetsIn PySem.F.slot_dict_items PySem.F.entry_dict_items rfl (PySem.evalArgs_none ⟨rfl, hr.typeIs, PySem.F.args_dict_items_1 _, _, meets_dict_items_raw d hs, ⟨⟨es, ep, hr⟩, fin⟩⟩)
end Bx

set_option Elab.async false
set_option linter.all false
set_option maxRecDepth 100000
set_option maxHeartbeats 2000000
/-! dict(zip(a, b)), a list or a tuple each. -/
namespace Bx
open PySem PySem.Spec PyProof.Rows L2
section
variable {prog : Program} {w : World} {A : Around} {E : Value → Shared → Prop} {s : Shared} {z TI TO i1 i2 T : Addr} {fp1 fp2 : List Addr} {n1 n2 i : Nat} {P1 P2 : Nat → Value → Prop} {St1 St2 : Nat → Heap → Prop} {f : Bool} {oT : Obj}
/-- one turn of a zip whose last pair is still held -/
theorem zipH_item {Q : Value → Shared → Prop} (S : ZipSep2 z TI TO i1 i2 fp1 fp2) (D1 : Draws prog w A i1 fp1 n1 P1 St1) (D2 : Draws prog w A i2 fp2 n2 P2 St2)
    (hz : IsZipHeld s.heap z TI TO T f) (hT : s.heap.get? T = some oT) (hTI : IsTupOf2 s.heap TI (.ref i1) (.ref i2)) (st1 : St1 i s.heap) (st2 : St2 i s.heap) (lt1 : i < n1) (lt2 : i < n2)
    (hQ : ∀ x1 x2 h' tk, P1 i x1 → P2 i x2 → IsZipHeld h' z TI TO T true → St1 (i + 1) h' → St2 (i + 1) h' → IsTupOf2 h' s.heap.objs.size x1 x2 →
      (∀ c o, c ≠ z → c ≠ i1 → c ≠ i2 → s.heap.get? c = some o → h'.get? c = some o) → Q (.ref s.heap.objs.size) { s with heap := h', toks := tk }) :
    wpAny (model prog w) A (Builtin.«zip.__next__» ⟨[.ref z], []⟩) (fun fin s' => ∃ v, fin = .done (.ret v) ∧ Q v s') E s := by
  obtain ⟨hp, g, d, tk0, os⟩ := s
  show wpAny _ _ (field (.ref z) 2 >>= _) _ _ _
  refine wpAny_bind (wpAny_field hz rfl (x := .bool false) rfl ?_)
  show wpAny _ _ (field (.ref z) 3 >>= _) _ _ _
  refine wpAny_bind (wpAny_field hz rfl (x := .ref TI) rfl (wpAny_bind (wpAny_seqItems hTI rfl ?_)))
  show wpAny _ _ (Builtin.SmallTypes.ownedTupleIsFree (.ref z) >>= _) _ _ _
  refine wpAny_bind (wpAny_tupleHeld_zip hz hT fun h₁ hz₁ b1 => ?_)
  simp only [Bool.false_eq_true, if_false]
  refine wpAny_bind ?_
  rw [← Array.forIn_toList]
  simp only [List.forIn_cons, List.forIn_nil]
  refine wpAny_bind (wpAny_bind (wpAny_holding ?_))
  show wpAny _ _ (Builtin.SmallTypes.nextOf (.ref i1) >>= _) _ _ _
  refine wpAny_bind (D1.item i ⟨h₁, g, d, tk0, os⟩ _ _ lt1 (D1.over st1 b1 S.zf1) fun x1 h₂ t1 p1 st1' b2 => wpAny_pure (wpAny_pure ?_))
  refine wpAny_bind (wpAny_bind (wpAny_holding ?_))
  show wpAny _ _ (Builtin.SmallTypes.nextOf (.ref i2) >>= _) _ _ _
  refine wpAny_bind (D2.item i ⟨h₂, g, d, t1, os⟩ _ _ lt2 (D2.over (D2.over st2 b1 S.zf2) b2 S.sep1_2) fun x2 h₃ t2 p2 st2' b3 => wpAny_pure (wpAny_pure (wpAny_pure ?_)))
  show wpAny _ _ (newTuple [x1, x2] >>= _) _ _ _
  refine wpAny_bind (wpAny_newTuple ?_)
  have b2' : Heap.SameBut i1 h₁ h₂ := b2
  have b3' : Heap.SameBut i2 h₂ h₃ := b3
  have b1' : Heap.SameBut z hp h₁ := b1
  have hsz : h₃.objs.size = hp.objs.size := by rw [b3'.1, b2'.1, b1'.1]
  have hz₃ : IsZipHeld h₃ z TI TO T true := b3'.extBut _ _ S.zi2 (b2'.extBut _ _ S.zi1 hz₁)
  refine wpAny_pure ⟨_, rfl, ?_⟩
  show Q (.ref h₃.objs.size) _
  have hp3 : IsTupOf2 (h₃.push { cls := .type "tuple", data := .seq #[x1, x2] }) h₃.objs.size x1 x2 := Heap.get?_push_size _ rfl
  rw [hsz] at hp3 ⊢
  exact hQ x1 x2 _ _ p1 p2 (Heap.get?_push_of_some _ hz₃) (D1.frame _ _ _ (D1.over st1' b3' S.sep2_1) fun b _ o e => Heap.get?_push_of_some _ e) (D2.frame _ _ _ st2' fun b _ o e => Heap.get?_push_of_some _ e) hp3
    fun c o c1 c2 c3 e => Heap.get?_push_of_some _ (b3'.extBut _ _ c3 (b2'.extBut _ _ c2 (b1'.extBut _ _ c1 e)))
/-- .. and its end, both of one length -/
theorem zipH_end {Q : Fin → Shared → Prop} (S : ZipSep2 z TI TO i1 i2 fp1 fp2) (D1 : Draws prog w A i1 fp1 n1 P1 St1)
    (hz : IsZipHeld s.heap z TI TO T f) (hT : s.heap.get? T = some oT) (hTI : IsTupOf2 s.heap TI (.ref i1) (.ref i2)) (st1 : St1 n1 s.heap)
    (hE : ∀ h' e, (∀ c o, c ≠ z → c ≠ i1 → s.heap.get? c = some o → h'.get? c = some o) → (∃ o, h'.get? e = some o ∧ o.cls = .type "StopIteration") → E (.ref e) { s with heap := h' }) :
    wpAny (model prog w) A (Builtin.«zip.__next__» ⟨[.ref z], []⟩) Q E s := by
  obtain ⟨hp, g, d, tk0, os⟩ := s
  show wpAny _ _ (field (.ref z) 2 >>= _) _ _ _
  refine wpAny_bind (wpAny_field hz rfl (x := .bool false) rfl ?_)
  show wpAny _ _ (field (.ref z) 3 >>= _) _ _ _
  refine wpAny_bind (wpAny_field hz rfl (x := .ref TI) rfl (wpAny_bind (wpAny_seqItems hTI rfl ?_)))
  show wpAny _ _ (Builtin.SmallTypes.ownedTupleIsFree (.ref z) >>= _) _ _ _
  refine wpAny_bind (wpAny_tupleHeld_zip hz hT fun h₁ hz₁ b1 => ?_)
  simp only [Bool.false_eq_true, if_false]
  refine wpAny_bind ?_
  rw [← Array.forIn_toList]
  simp only [List.forIn_cons, List.forIn_nil]
  refine wpAny_bind (wpAny_bind (wpAny_holding ?_))
  show wpAny _ _ (Builtin.SmallTypes.nextOf (.ref i1) >>= _) _ _ _
  refine wpAny_bind (D1.done ⟨h₁, g, d, tk0, os⟩ _ _ (D1.over st1 b1 S.zf1) fun h₂ e hx he => ?_)
  have b1' : Heap.SameBut z hp h₁ := b1
  exact hE h₂ e (fun c o c1 c2 x => hx _ _ c2 (b1'.extBut _ _ c1 x)) he
end
section
variable {prog : Program} {w : World}
/-- zip(a, b), both of length n, as the argument of dict() -/
theorem pairArg_zip (z TI TO i1 i2 : Addr) (q1 q2 : Bool × Addr) (xs ys : Array Value) (n : Nat) (S : ZipSep2 z TI TO i1 i2 [i1, q1.2] [i2, q2.2]) (e1 : q1.2 ≠ i1) (e2 : q2.2 ≠ i2) (l1 : xs.size = n) (l2 : ys.size = n) (d1 : q1.2 ≠ TO) (d2 : q2.2 ≠ TO) (d3 : q1.2 ≠ i2) (d4 : q2.2 ≠ i1) :
    PairArg prog w "zip" z [z, TI, TO, i1, i2, q1.2, q2.2] [z, TO, i1, i2] n (fun i k v => xs[i]? = some k ∧ ys[i]? = some v)
      (fun h => IsZip h z TI TO .none ∧ IsTupOf2 h TI (.ref i1) (.ref i2) ∧ (∃ a b, IsTupOf2 h TO a b) ∧ ItAt h q1.1 i1 q1.2 0 ∧ ItAt h q2.1 i2 q2.2 0 ∧ SqAt h q1.1 q1.2 xs ∧ SqAt h q2.1 q2.2 ys) := by
  have sqat : ∀ {h h' : Heap} {b : Bool} {a : Addr} {its : Array Value}, SqAt h b a its → (∀ o, h.get? a = some o → h'.get? a = some o) → SqAt h' b a its := fun {h h' b a its} x k => by
    cases b with
    | true => exact (show h.IsTuple a its from x).at k
    | false => exact (show h.IsList a its from x).at k
  have sqth : ∀ {h : Heap} {b : Bool} {a : Addr} {its : Array Value}, SqAt h b a its → ∃ o, h.get? a = some o := fun {h b a its} x => by
    cases b with
    | true => exact let ⟨o, e, _⟩ := (show h.IsTuple a its from x); ⟨o, e⟩
    | false => exact let ⟨o, e, _⟩ := (show h.IsList a its from x); ⟨o, e⟩
  refine
  { type := fun s ok => ⟨_, ok.1, rfl⟩
    notDict := by decide
    keep := fun h h' ok hk => ?_
    there := fun h ok b hb => ?_
    sub := fun b hb => by simp at hb ⊢; rcases hb with rfl | rfl | rfl | rfl <;> simp
    noKeys := fun A s Q E hA ok h => getAttrOr_miss_zip ok.1 rfl rfl rfl zip_no_keys (by decide +kernel) hA h
    iter := fun A s d Q E hA ok hd hdf h => ?_ }
  · obtain ⟨hz, hTI, ⟨a, b, hTO⟩, h1, h2, s1, s2⟩ := ok
    exact ⟨hk _ _ hz, hk _ _ hTI, ⟨a, b, hk _ _ hTO⟩, h1.at fun o e => hk _ o e, h2.at fun o e => hk _ o e, sqat s1 fun o e => hk _ o e, sqat s2 fun o e => hk _ o e⟩
  · obtain ⟨hz, hTI, ⟨a, c, hTO⟩, h1, h2, s1, s2⟩ := ok
    obtain ⟨o1, t1, _⟩ := h1.there
    obtain ⟨o2, t2, _⟩ := h2.there
    obtain ⟨o3, t3⟩ := sqth s1
    obtain ⟨o4, t4⟩ := sqth s2
    simp only [List.mem_cons, List.not_mem_nil, or_false] at hb
    rcases hb with rfl | rfl | rfl | rfl | rfl | rfl | rfl
    · exact ⟨_, hz⟩
    · exact ⟨_, hTI⟩
    · exact ⟨_, hTO⟩
    · exact ⟨_, t1⟩
    · exact ⟨_, t2⟩
    · exact ⟨_, t3⟩
    · exact ⟨_, t4⟩
  · obtain ⟨hz, hTI, ⟨a, b, hTO⟩, h1, h2, s1, s2⟩ := ok
    simp only [List.mem_cons, List.not_mem_nil, or_false, not_or] at hdf
    obtain ⟨dz, dTI, dTO, di1, di2, dl1, dl2⟩ := hdf
    have zq1 : q1.2 ≠ z := fun e => S.zf1 (by simp [e])
    have zq2 : q2.2 ≠ z := fun e => S.zf2 (by simp [e])
    have D1 : Draws prog w A.in1 i1 [i1, q1.2] xs.size (fun i v => xs[i]? = some v) (fun i h => ItAt h q1.1 i1 q1.2 i ∧ SqAt h q1.1 q1.2 xs) := draws_src (A := A.in1) hA q1.1 i1 q1.2 e1 xs
    have D2 : Draws prog w A.in1 i2 [i2, q2.2] ys.size (fun i v => ys[i]? = some v) (fun i h => ItAt h q2.1 i2 q2.2 i ∧ SqAt h q2.1 q2.2 ys) := draws_src (A := A.in1) hA q2.1 i2 q2.2 e2 ys
    refine wpAny_pyIter_zip hz (h z [z, TO, i1, i2] (fun i h => IsTupOf2 h TI (.ref i1) (.ref i2) ∧ ItAt h q1.1 i1 q1.2 i ∧ ItAt h q2.1 i2 q2.2 i ∧ SqAt h q1.1 q1.2 xs ∧ SqAt h q2.1 q2.2 ys ∧
      ((IsZip h z TI TO .none ∧ ∃ a b, IsTupOf2 h TO a b) ∨ ∃ T f oT, IsZipHeld h z TI TO T f ∧ h.get? T = some oT ∧ T ≠ z ∧ T ≠ i1 ∧ T ≠ i2 ∧ T ≠ d)) s.heap s.toks ?_
      ⟨hTI, h1, h2, s1, s2, .inl ⟨hz, a, b, hTO⟩⟩ (fun _ _ e => e) fun b hb => .inl hb)
    refine
    { off := fun hm => ?_
      frame := fun i h₁ h₂ st hk => ?_
      item := fun i s₁ Q₁ E₁ hi st hds hQ => ?_
      done := fun s₁ Q₁ E₁ st hQ => ?_ }
    · simp only [List.mem_cons, List.not_mem_nil, or_false] at hm
      rcases hm with e | e | e | e
      · exact dz e
      · exact dTO e
      · exact di1 e
      · exact di2 e
    · obtain ⟨hTI, h1, h2, s1, s2, hz⟩ := st
      refine ⟨hk _ _ (Ne.symm dTI) hTI, h1.at fun o e => hk _ o (Ne.symm di1) e, h2.at fun o e => hk _ o (Ne.symm di2) e, sqat s1 fun o e => hk _ o (Ne.symm dl1) e, sqat s2 fun o e => hk _ o (Ne.symm dl2) e, ?_⟩
      rcases hz with ⟨hz, a, b, hTO⟩ | ⟨T, f, oT, hz, hT, r1, r2, r3, r4⟩
      · exact .inl ⟨hk _ _ (Ne.symm dz) hz, a, b, hk _ _ (Ne.symm dTO) hTO⟩
      · exact .inr ⟨T, f, oT, hk _ _ (Ne.symm dz) hz, hk _ _ r4 hT, r1, r2, r3, r4⟩
    · obtain ⟨hTI, h1, h2, s1, s2, hz⟩ := st
      have lt : ∀ {c o}, s₁.heap.get? c = some o → s₁.heap.objs.size ≠ c := fun e => Nat.ne_of_gt (Heap.lt_size e)
      have m1 : s₁.heap.objs.size ≠ i1 := let ⟨_, e, _⟩ := h1.there; lt e
      have m2 : s₁.heap.objs.size ≠ i2 := let ⟨_, e, _⟩ := h2.there; lt e
      rcases hz with ⟨hz, a, b, hTO⟩ | ⟨T, f, oT, hz, hT, r1, r2, r3, r4⟩
      · refine wpAny_pyNext_zipD2_item S D1 D2 hz hTI hTO ⟨h1, s1⟩ ⟨h2, s2⟩ (by omega) (by omega) fun x1 x2 h' tk p1 p2 z' TO' t1 t2 hT hsz hk => ?_
        exact hQ s₁.heap.objs.size x1 x2 h' tk ⟨p1, p2⟩ (.inl ⟨_, hT, rfl, _, rfl⟩)
          ⟨hk _ _ S.TIz S.TITO S.TIi1 S.TIi2 hTI, t1.1, t2.1, t1.2, t2.2, .inr ⟨s₁.heap.objs.size, false, _, z', hT, lt hz, m1, m2, Nat.ne_of_gt hds⟩⟩
          fun c o hc e => hk c o (fun x => hc (by simp [x])) (fun x => hc (by simp [x])) (fun x => hc (by simp [x])) (fun x => hc (by simp [x])) e
      · have hTy : s₁.TypeIs (.ref z) "zip" := ⟨_, hz, rfl⟩
        unfold pyNext
        refine wpAny_bind (wpAny_attempt (wpAny_callSpecial?_slot (name := Str.ofString "__next__") hTy PySem.F.slot_zip_next
          (wpAny_call_entry PySem.F.slot_zip_next hTy PySem.F.entry_zip_next (zipH_item S D1 D2 hz hT hTI ⟨h1, s1⟩ ⟨h2, s2⟩ (by omega) (by omega) fun x1 x2 h' tk p1 p2 z' t1 t2 hp hk => wpAny_pure ?_) (PySem.F.args_zip_next_1 _))))
        exact hQ s₁.heap.objs.size x1 x2 h' tk ⟨p1, p2⟩ (.inl ⟨_, hp, rfl, _, rfl⟩)
          ⟨hk _ _ S.TIz S.TIi1 S.TIi2 hTI, t1.1, t2.1, t1.2, t2.2, .inr ⟨T, true, oT, z', hk _ _ r1 r2 r3 hT, r1, r2, r3, r4⟩⟩
          fun c o hc e => hk c o (fun x => hc (by simp [x])) (fun x => hc (by simp [x])) (fun x => hc (by simp [x])) e
    · obtain ⟨hTI, h1, h2, s1, s2, hz⟩ := st
      rcases hz with ⟨hz, a, b, hTO⟩ | ⟨T, f, oT, hz, hT, r1, r2, r3, r4⟩
      · exact wpAny_pyNext_zipD2_end S D1 D2 hz hTI hTO ⟨h1, s1⟩ ⟨h2, s2⟩ (by omega) (by omega) (.inl (by omega)) fun h' tk hk =>
          hQ h' tk fun c o hc e => hk c o (fun x => hc (by simp [x])) (fun x => hc (by simp [x])) (fun x => hc (by simp [x])) (fun x => hc (by simp [x])) e
      · have hTy : s₁.TypeIs (.ref z) "zip" := ⟨_, hz, rfl⟩
        rw [← l1] at h1
        unfold pyNext
        refine wpAny_bind (wpAny_attempt (wpAny_callSpecial?_slot (name := Str.ofString "__next__") hTy PySem.F.slot_zip_next
          (wpAny_call_entry PySem.F.slot_zip_next hTy PySem.F.entry_zip_next (zipH_end S D1 hz hT hTI ⟨h1, s1⟩ fun h' e hk he => ?_) (PySem.F.args_zip_next_1 _))))
        obtain ⟨o, ho, hc⟩ := he
        refine wpAny_bind (wpAny_isInstance (T := "StopIteration") (b := true) ⟨o, ho, hc⟩ isSubtype_stop (wpAny_pure ?_))
        exact hQ h' s₁.toks fun c o hc e => hk c o (fun x => hc (by simp [x])) (fun x => hc (by simp [x])) e
end
def tDZ (P : Program) (w : World) (K : PySem.W.Frag) (ta : TA) : TE := fun σ H Q => ta σ H fun vs H1 => ∃ (q1 q2 : SrcQ) (es : List Ent), vs = [.ref q1.2.1, .ref q2.2.1] ∧ Src K H1 q1 ∧ Src K H1 q2 ∧ q1.2.2 = es.map (fun e => V.ref e.2.1) ∧ q2.2.2 = es.map (fun e => e.2.2) ∧ DnC H1 es ∧
  ∀ d, H1 d = none → Dn P w (upd H1 d (DnO P w d es)) d es → Q (.ref d) (upd H1 d (DnO P w d es))
theorem ents_read : ∀ {es : List Ent} {us us2 : List Value}, Vals (es.map fun e => V.ref e.2.1) us → Vals (es.map fun e => e.2.2) us2 →
    ∃ vs, Ents es vs ∧ us = vs.map (fun v => Value.ref v.2.1) ∧ us2 = vs.map (fun v => v.2.2)
  | [], _, _, .nil, .nil => ⟨[], .nil, rfl, rfl⟩
  | e :: es, _, _, .cons (b := u) r1 rr, .cons (b := u2) r2 rr2 => by
    obtain ⟨vs, q1, q2, q3⟩ := ents_read rr rr2
    cases (show u = Value.ref e.2.1 from r1)
    exact ⟨(e.1, e.2.1, u2) :: vs, .cons ⟨rfl, rfl, r2⟩ q1, by rw [List.map_cons, q2], by rw [List.map_cons, q3]⟩
section
variable {X : Cx} {e e2 : Expr} {ta : TA} {p p2 pos pos2 : Pos}
theorem pe_dictZip (hc : X.calm = true) (hu : X.A.units + 16 < cLine) (hgd : Gl X "dict") (hmd : X.mg "dict" = none) (hvd : bootBuiltins "dict" = some (.type "dict")) (hgz : Gl X "zip") (hmz : X.mg "zip" = none) (ha : PA X [e, e2] ta)
    (hs : starEach [e, e2] X.env = (false, eval e X.env) :: starEach [e2] X.env := by rfl) (hpl : (backTo pos2 (starEach [e2] X.env)).any (·.1) = false := by rfl)
    (hs2 : starEach [.Call (.Name "zip" p2) [e, e2] [] pos2] X.env = [(false, eval (.Call (.Name "zip" p2) [e, e2] [] pos2) X.env)] := by rfl) :
    PE X (.Call (.Name "dict" p) [.Call (.Name "zip" p2) [e, e2] [] pos2] [] pos) (tDZ X.prog X.w X.K ta) := by
  refine ⟨fun pins s σ H Q I h => ?_⟩
  refine wpAny_Call_Name_kw (ld_blt I hgd hmd hvd ?_)
  refine PyProof.Rows.callWith_type1 ?_ hs2 rfl
  rw [hs2]
  show wpAny _ _ (spliced [(false, eval (.Call (.Name "zip" p2) [e, e2] [] pos2) X.env)]) _ _ s
  refine Calls.spliced_cons ?_
  refine Call_ (ld_blt I hgz hmz PyProof.Rows.boot_zip (PyProof.Rows.callWith_type1 (thn (ha.run pos2 pins s σ H _ I h) fun us s1 ⟨vs, H1, I1, r1, q1, q2, es, ex, t1, t2, k1, k2, C, q⟩ => ?_) hs hpl))
  subst ex
  obtain ⟨u1, u2, rfl, r1, r2⟩ := vals2 r1
  cases (show u1 = Value.ref q1.2.1 from r1)
  cases (show u2 = Value.ref q2.2.1 from r2)
  obtain ⟨its, rv, p1⟩ := src_read I1 t1
  obtain ⟨its2, rv2, p2'⟩ := src_read I1 t2
  rw [k1] at rv
  rw [k2] at rv2
  obtain ⟨vs, en, w1, w2⟩ := ents_read rv rv2
  have hle : es.length = vs.length := Paired.length en
  have hC := C.sz
  have keysok : ∀ v ∈ vs, (nestedKind X.prog X.w).is s1.heap v.1 v.2.1 := fun v hv => by
    obtain ⟨x, hm, e1, e2, _⟩ := en.mem hv
    obtain ⟨c1, c2⟩ := C.keys x hm
    rw [← e1, ← e2]
    exact ⟨Rep.key I1 c1 rfl, c2⟩
  have lt1 := p1.lt
  have lt2 := p2'.lt
  refine zip_begins2 (begins_src q1.1 q1.2.1 its.toArray) (begins_src q2.1 q2.2.1 its2.toArray) p1 p2' fun h' hz hTI hTO h1 h2 hsz hk => Calls.spliced_nil ?_
  have I2 : Inv X pins σ H1 { s1 with heap := h' } := I1.kept (t' := s1.toks) hk
  have sq : ∀ {b : Bool} {a : Addr} {its : Array Value}, SqAt s1.heap b a its → SqAt h' b a its := fun {b a its} x => by
    cases b with
    | true => exact (show s1.heap.IsTuple a its from x).at fun o e => hk _ o e
    | false => exact (show s1.heap.IsList a its from x).at fun o e => hk _ o e
  have S := zip_sep2 (N := s1.heap.objs.size) (fp1 := [q1.2.1]) (fp2 := [q2.2.1]) (fun b hb => by rw [List.mem_singleton.mp hb]; exact lt1) (fun b hb => by rw [List.mem_singleton.mp hb]; exact lt2)
  have gt1 : ∀ k, q1.2.1 ≠ s1.heap.objs.size + k := fun k => Nat.ne_of_lt (Nat.lt_of_lt_of_le lt1 (Nat.le_add_right _ _))
  have gt2 : ∀ k, q2.2.1 ≠ s1.heap.objs.size + k := fun k => Nat.ne_of_lt (Nat.lt_of_lt_of_le lt2 (Nat.le_add_right _ _))
  have P := pairArg_zip (prog := X.prog) (w := X.w) (s1.heap.objs.size + 4) (s1.heap.objs.size + 2) (s1.heap.objs.size + 3) s1.heap.objs.size (s1.heap.objs.size + 1) (q1.1, q1.2.1) (q2.1, q2.2.1) its.toArray its2.toArray vs.length S (Nat.ne_of_lt lt1) (gt2 1)
    (by rw [List.size_toArray, w1, List.length_map]) (by rw [List.size_toArray, w2, List.length_map]) (gt1 3) (gt2 3) (gt1 1) (Nat.ne_of_lt lt2)
  refine call_dict_pairsH (knd := nestedKind X.prog X.w) (ps := vs) (s := { s1 with heap := h' }) P (I.ok.hd hc) (show X.A.in1.in1.units + 8 < cLine by show X.A.units + 1 + 1 + 8 < cLine; omega)
    ⟨hz, hTI, ⟨_, _, hTO⟩, ItAt.new h1, ItAt.new h2, sq p1, sq p2'⟩ ⟨rfl, fun i key v hi => ?_⟩ (fun h2' hk' x hx => ?_) (by rw [← hle, sizeLine_eq]; omega) fun h2' tk hd' hk' => ?_
  · obtain ⟨g1, g2⟩ := hi
    have g1' : its[i]? = some key := by simpa using g1
    have g2' : its2[i]? = some v := by simpa using g2
    rw [w1, List.getElem?_map] at g1'
    rw [w2, List.getElem?_map] at g2'
    obtain ⟨y, hy, ey⟩ := Option.map_eq_some_iff.mp g1'
    rw [hy] at g2'
    cases g2'
    exact ⟨y.1, y.2.1, hy, ey.symm⟩
  · have notin : ∀ b o, s1.heap.get? b = some o → b ∉ ([s1.heap.objs.size + 4, s1.heap.objs.size + 3, s1.heap.objs.size, s1.heap.objs.size + 1] : List Addr) ∧ b ≠ h'.objs.size := fun b o e => by
      have hlt : b < s1.heap.objs.size := Heap.lt_size e
      refine ⟨fun hm => ?_, Nat.ne_of_lt (Nat.lt_of_lt_of_le hlt (by rw [hsz]; exact Nat.le_add_right _ _))⟩
      simp only [List.mem_cons, List.not_mem_nil, or_false] at hm
      rcases hm with z | z | z | z
      · exact absurd z (Nat.ne_of_lt (Nat.lt_of_lt_of_le hlt (Nat.le_add_right _ _)))
      · exact absurd z (Nat.ne_of_lt (Nat.lt_of_lt_of_le hlt (Nat.le_add_right _ _)))
      · exact absurd z (Nat.ne_of_lt hlt)
      · exact absurd z (Nat.ne_of_lt (Nat.lt_of_lt_of_le hlt (Nat.le_add_right _ _)))
    exact nestedKind_stays.stays (fun b ob vs' n' hb _ => hk' b ob (notin b ob hb).2 (notin b ob hb).1 (hk b ob hb)) (keysok x hx)
  · rw [storedAll_self en C.nd] at hd'
    have hn : H1 h'.objs.size = none := I2.hok.fresh (Nat.le_refl _)
    have D' : Dn X.prog X.w (upd H1 h'.objs.size (DnO X.prog X.w h'.objs.size es)) h'.objs.size es := ⟨upd_same, Inv.bigx I2, C.mono (Tu.new hn)⟩
    have keepAll : ∀ b o, b ∉ ([s1.heap.objs.size + 4, s1.heap.objs.size + 3, s1.heap.objs.size, s1.heap.objs.size + 1] : List Addr) → s1.heap.get? b = some o → h2'.get? b = some o := fun b o hb e => hk' b o hb (hk b o e)
    have fresh : ∀ c, c ∈ ([s1.heap.objs.size + 4, s1.heap.objs.size + 3, s1.heap.objs.size, s1.heap.objs.size + 1] : List Addr) → s1.heap.objs.size ≤ c := fun c hm => by
      simp only [List.mem_cons, List.not_mem_nil, or_false] at hm
      rcases hm with z | z | z | z
      · rw [z]; exact Nat.le_add_right _ _
      · rw [z]; exact Nat.le_add_right _ _
      · rw [z]; exact Nat.le_refl _
      · rw [z]; exact Nat.le_add_right _ _
    have I3 : Inv X pins σ (upd H1 h'.objs.size (DnO X.prog X.w h'.objs.size es)) { s1 with heap := h2', toks := tk } :=
      I1.laid (t' := tk) (fun b o e => keepAll b o (fun hm => absurd (Nat.lt_of_lt_of_le (Heap.lt_size e) (fresh b hm)) (Nat.lt_irrefl _)) e) (by rw [hsz]; exact Nat.le_add_right _ _) (dn_ok en hd')
    exact ⟨.ref h'.objs.size, _, I3, rfl, q _ hn D'⟩
end
end Bx

set_option Elab.async false
set_option linter.all false
set_option maxRecDepth 100000
set_option maxHeartbeats 2000000
/-! sorted of places (tuples of whole numbers of one length) and of boxes (pairs of such), any number of them. -/
namespace Bx
open PySem PySem.Spec PyProof.Rows L2

/-! ### the order -/
abbrev lexLt : List Int → List Int → Bool := HT.lexLt
theorem lexLt_self : ∀ a : List Int, lexLt a a = false
  | [] => rfl
  | x :: xs => by
    show (if x = x then lexLt xs xs else _) = false
    rw [if_pos rfl]
    exact lexLt_self xs
theorem lexLt_asym : ∀ a b : List Int, lexLt a b = true → lexLt b a = false
  | [], [], _ => rfl
  | [], _ :: _, _ => rfl
  | x :: xs, [], h => by cases h
  | x :: xs, y :: ys, h => by
    have h' : (if x = y then lexLt xs ys else decide (x < y)) = true := h
    show (if y = x then lexLt ys xs else decide (y < x)) = false
    by_cases e : x = y
    · rw [if_pos e] at h'
      rw [if_pos e.symm]
      exact lexLt_asym xs ys h'
    · rw [if_neg e, decide_eq_true_eq] at h'
      rw [if_neg (fun z => e z.symm)]
      exact decide_eq_false (by omega)
theorem lexLt_tri : ∀ a b : List Int, lexLt a b = false → lexLt b a = false → a = b
  | [], [], _, _ => rfl
  | [], _ :: _, h, _ => by cases h
  | _ :: _, [], _, h => by cases h
  | x :: xs, y :: ys, h, h' => by
    have g : (if x = y then lexLt xs ys else decide (x < y)) = false := h
    have g' : (if y = x then lexLt ys xs else decide (y < x)) = false := h'
    by_cases e : x = y
    · rw [if_pos e] at g
      rw [if_pos e.symm] at g'
      rw [e, lexLt_tri xs ys g g']
    · rw [if_neg e] at g
      rw [if_neg (fun z => e z.symm)] at g'
      have a1 := of_decide_eq_false g
      have a2 := of_decide_eq_false g'
      omega
theorem lexLt_trans : ∀ a b c : List Int, lexLt a b = true → lexLt b c = true → lexLt a c = true
  | [], _, [], _, h => by cases ‹List Int› <;> cases h
  | [], _, _ :: _, _, _ => rfl
  | _ :: _, [], _, h, _ => by cases h
  | _ :: _, _ :: _, [], _, h => by cases h
  | x :: xs, y :: ys, z :: zs, h, h' => by
    have g : (if x = y then lexLt xs ys else decide (x < y)) = true := h
    have g' : (if y = z then lexLt ys zs else decide (y < z)) = true := h'
    show (if x = z then lexLt xs zs else decide (x < z)) = true
    by_cases e : x = y
    · rw [if_pos e] at g
      by_cases e2 : y = z
      · rw [if_pos e2] at g'
        rw [if_pos (e.trans e2)]
        exact lexLt_trans xs ys zs g g'
      · rw [if_neg e2, decide_eq_true_eq] at g'
        rw [if_neg (fun q => e2 (e.symm.trans q))]
        exact decide_eq_true (by omega)
    · rw [if_neg e, decide_eq_true_eq] at g
      by_cases e2 : y = z
      · rw [if_neg (fun q => e (q.trans e2.symm))]
        exact decide_eq_true (by omega)
      · rw [if_neg e2, decide_eq_true_eq] at g'
        rw [if_neg (by omega)]
        exact decide_eq_true (by omega)
theorem swo_lexLt {α : Type} (k : α → List Int) : SrtO.Swo fun v u => lexLt (k v) (k u) := by
  refine ⟨fun x y h => lexLt_asym _ _ h, fun x y z h1 h2 => ?_⟩
  cases h3 : lexLt (k z) (k x) with
  | false => rfl
  | true =>
    cases h4 : lexLt (k x) (k y) with
    | true =>
      rw [lexLt_trans _ _ _ h3 h4] at h2
      cases h2
    | false =>
      have e : k x = k y := lexLt_tri _ _ h4 h1
      rw [e] at h3
      rw [h3] at h2
      cases h2
theorem lexLt_app : ∀ (l l' h h' : List Int), l.length = l'.length → lexLt (l ++ h) (l' ++ h') = if l = l' then lexLt h h' else lexLt l l'
  | [], [], h, h', _ => by simp
  | [], _ :: _, _, _, e => by simp at e
  | _ :: _, [], _, _, e => by simp at e
  | x :: l, y :: l', h, h', e => by
    show (if x = y then lexLt (l ++ h) (l' ++ h') else decide (x < y)) = if x :: l = y :: l' then lexLt h h' else (if x = y then lexLt l l' else decide (x < y))
    by_cases q : x = y
    · rw [if_pos q, if_pos q, lexLt_app l l' h h' (by simpa using e)]
      by_cases z : l = l'
      · rw [if_pos z, if_pos (by rw [q, z])]
      · rw [if_neg z, if_neg (fun w => z (List.cons.inj w).2)]
    · rw [if_neg q, if_neg q, if_neg (fun w => q (List.cons.inj w).1)]

/-! ### places and boxes as data -/
abbrev plc (p : List Int) : NestedKey := .tup (p.map .num)
abbrev Box := List Int × List Int
abbrev bxk (b : Box) : NestedKey := .tup [plc b.1, plc b.2]
theorem num_inj : ∀ {a b : List Int}, a.map NestedKey.num = b.map NestedKey.num → a = b
  | [], [], _ => rfl
  | [], _ :: _, h => by simp at h
  | _ :: _, [], h => by simp at h
  | x :: xs, y :: ys, h => by
    simp only [List.map_cons, List.cons.injEq, NestedKey.num.injEq] at h
    rw [h.1, num_inj h.2]
theorem plc_inj {a b : List Int} (h : plc a = plc b) : a = b := num_inj (NestedKey.tup.inj h)
theorem bxk_inj {a b : Box} (h : bxk a = bxk b) : a = b := by
  have h1 := NestedKey.tup.inj h
  simp only [List.cons.injEq, and_true] at h1
  exact Prod.ext (plc_inj h1.1) (plc_inj h1.2)
theorem reps_perm {α : Type} {H : Hp} {enc : α → NestedKey} : ∀ {xs ys : List V}, ys.Perm xs → ∀ {ds : List α}, Reps H (ds.map enc) xs → ∃ ds' : List α, ds'.Perm ds ∧ Reps H (ds'.map enc) ys := by
  intro xs ys hp
  induction hp with
  | nil =>
    intro ds r
    exact ⟨ds, .refl _, r⟩
  | @cons x l1 l2 _ ih =>
    intro ds r
    cases ds with
    | nil => cases (show _ = _ from r)
    | cons d ds =>
      obtain ⟨y, rest, e, h, hr⟩ := r
      cases e
      obtain ⟨ds', p, r'⟩ := ih hr
      exact ⟨d :: ds', p.cons d, .cons h r'⟩
  | swap x y l =>
    intro ds r
    cases ds with
    | nil => cases (show _ = _ from r)
    | cons d ds =>
      cases ds with
      | nil =>
        obtain ⟨_, _, e, _, hr⟩ := r
        cases e
        cases (show _ = _ from hr)
      | cons d2 ds =>
        obtain ⟨_, _, e, h, _, _, e2, h2, hr⟩ := r
        cases e
        cases e2
        exact ⟨d2 :: d :: ds, .swap _ _ _, .cons h2 (.cons h hr)⟩
  | trans _ _ ih1 ih2 =>
    intro ds r
    obtain ⟨d1, p1, r1⟩ := ih2 r
    obtain ⟨d2, p2, r2⟩ := ih1 r1
    exact ⟨d2, p2.trans p1, r2⟩
open Classical in
/-- the key of a value that is such data -/
noncomputable def keyOf {α : Type} (H : Hp) (enc : α → NestedKey) (key : α → List Int) (v : V) : List Int := if h : ∃ d, Rep H (enc d) v then key h.choose else []
theorem keyOf_eq {α : Type} {H : Hp} {enc : α → NestedKey} {key : α → List Int} (inj : ∀ {a b}, enc a = enc b → a = b) {v : V} {d : α} (h : Rep H (enc d) v) : keyOf H enc key v = key d := by
  have e : ∃ d, Rep H (enc d) v := ⟨d, h⟩
  unfold keyOf
  rw [dif_pos e, inj (Rep.inj e.choose_spec h)]
theorem pairwise_keys {α : Type} {H : Hp} {enc : α → NestedKey} {key : α → List Int} (inj : ∀ {a b}, enc a = enc b → a = b) : ∀ {ys : List V} {ds : List α}, Reps H (ds.map enc) ys →
    ys.Pairwise (fun x y => lexLt (keyOf H enc key y) (keyOf H enc key x) = false) → ds.Pairwise fun x y => lexLt (key y) (key x) = false
  | _, [], _, _ => .nil
  | _, d :: ds, ⟨y, rest, e, h, hr⟩, p => by
    subst e
    obtain ⟨p1, p2⟩ := List.pairwise_cons.mp p
    refine List.pairwise_cons.mpr ⟨fun d' hd' => ?_, pairwise_keys inj hr p2⟩
    obtain ⟨i, hi⟩ := List.getElem?_of_mem hd'
    obtain ⟨y', g1, g2⟩ := hr.get (i := i) (k := enc d') (by rw [List.getElem?_map, hi]; rfl)
    have q := p1 y' (List.mem_of_getElem? g1)
    rw [keyOf_eq inj h, keyOf_eq inj g2] at q
    exact q

/-! ### tuples of the heap -/
def TupAt (h : Heap) (v : Value) (its : List Value) : Prop := ∃ a o n, v = .ref a ∧ h.get? a = some o ∧ o.cls = .type "tuple" ∧ o.data = .seq its.toArray n
theorem TupAt.keeps {h h' : Heap} {v : Value} {its : List Value} (x : TupAt h v its) (k : ∀ b o, h.get? b = some o → o.cls = .type "tuple" → h'.get? b = some o) : TupAt h' v its := by
  obtain ⟨a, o, n, e, ho, hc, hd⟩ := x
  exact ⟨a, o, n, e, k a o ho hc, hc, hd⟩
theorem tupAt_of {X : Cx} {pins : List (Addr × Obj)} {σ : L2.St} {H : Hp} {s : Shared} (I : Inv X pins σ H s) {p : List Int} {v : V} {u : Value} (h : Rep H (plc p) v) (r : RelV v u) : ∃ its, TupAt s.heap u its ∧ IntsAre its p := by
  obtain ⟨a, xs, rfl, ha, hr⟩ := h
  cases r
  obtain ⟨_, its, rv, o, ho, hc, n, hd⟩ := I.hok a _ ha
  rw [hr.ints_eq] at rv
  exact ⟨its, ⟨a, o, n, rfl, ho, hc, hd⟩, rv.ints⟩
theorem firsts_at {h : Heap} {P : Value → Prop} : ∀ vs : List Value, (∀ v ∈ vs, ∃ u us, TupAt h v (u :: us) ∧ P u) → ∃ fs, PySem.W.KatTups h vs fs ∧ fs.length = vs.length ∧ ∀ f ∈ fs, P f
  | [], _ => ⟨[], trivial, rfl, fun _ h => nomatch h⟩
  | v :: vs, hv => by
    obtain ⟨fs, t, l, p⟩ := firsts_at vs fun v' hm => hv v' (List.mem_cons_of_mem _ hm)
    obtain ⟨u, us, ⟨a, o, n, rfl, ho, hc, hd⟩, pu⟩ := hv v List.mem_cons_self
    refine ⟨u :: fs, PySem.W.KatTups.cons ho hc hd (by simp) t, by rw [List.length_cons, List.length_cons, l], fun f hf => ?_⟩
    rcases List.mem_cons.mp hf with e | hf
    · rw [e]; exact pu
    · exact p f hf
section
variable {prog : Program} {w : World} {A : Around} {E : Value → Shared → Prop} {s : Shared}
theorem kat_ints {b : Bool} {Q : Bool → Shared → Prop} : ∀ {us ws : List Value} {ns ms : List Int} {i : Nat}, IntsAre us ns → IntsAre ws ms → ns.length = ms.length → Q (lexLt ns ms) s → PySem.W.KatLex prog w A b false Q (us.zip ws) i s
  | _, _, _, _, i, .nil, .nil, _, q => PySem.W.kat_nil q
  | _, _, _, _, i, .cons x t h1, .cons y u h2, e, q => by
    rename_i vs1 ns1 vs2 ns2
    refine PySem.W.kat_cons (SeqAt.EqAt.int_int x t y u prog w _ _ ?_)
    have q' : Q (if x = y then lexLt ns1 ns2 else decide (x < y)) s := q
    refine PySem.W.kat_go (fun e1 => ?_) (fun e1 => ?_)
    · have ex : x = y := by simpa using e1
      rw [if_pos ex] at q'
      exact PySem.W.kat_yes (kat_ints h1 h2 (by simpa using e) q')
    · have ex : ¬ x = y := by simpa using e1
      rw [if_neg ex] at q'
      refine PySem.W.kat_no ?_
      cases hb : (b && i == 0) with
      | true => exact oneLt_int q'
      | false => exact PySem.W.kat_one _ _ (PyProof.Rows.lt_int q')
  | _, _, _, _, _, .nil, .cons _ _ _, e, _ => by simp at e
  | _, _, _, _, _, .cons _ _ _, .nil, e, _ => by simp at e
end
section
variable {X : Cx}
theorem mem_vals : ∀ {xs : List V} {us : List Value} {u : Value}, Vals xs us → u ∈ us → ∃ x ∈ xs, L2.RelV x u
  | _, _, _, .nil, h => nomatch h
  | _, _, u, .cons r t, h => by
    rcases List.mem_cons.mp h with e | h
    · subst e; exact ⟨_, List.mem_cons_self, r⟩
    · obtain ⟨x, m, q⟩ := mem_vals t h
      exact ⟨x, List.mem_cons_of_mem _ m, q⟩
/-- sorted(list) by a key that any two of them are compared by -/
theorem sort_core {pins : List (Addr × Obj)} {s : Shared} {σ : L2.St} {H : Hp} {a : Addr} {xs : List V} {Q : VK} (I : Inv X pins σ H s) (hs : SqL X.K H a xs) (hr : ∀ x ∈ xs, ∃ t, x = V.ref t) (k : V → List Int)
    (hS : ∀ its : List Value, Vals xs its → 2 ≤ its.length → ∀ (h₁ : Heap) (a' : Addr), h₁.get? a' = some (seqObj "list" its.toArray 0) → (∀ b o, s.heap.get? b = some o → b ≠ a' ∧ h₁.get? b = some o) →
      SrtO.SortableO X.prog X.w X.A.in1.in1 { s with heap := h₁ } a' its fun v u => lexLt (k (backV v)) (k (backV u)))
    (q : ∀ (ys : List V) (p : Addr), ys.Pairwise (fun x y => lexLt (k y) (k x) = false) → ys.Perm xs → H p = none → Q (.ref p) (upd H p (.lst ys))) :
    wpAny (model X.prog X.w) X.A (call (.builtin "sorted") [.ref a]) (EP X pins σ Q) X.xe s := by
  obtain ⟨its, rv, hl, hz⟩ := I.list hs
  obtain ⟨e1, e2⟩ := refs_back rv hr
  have O : SrtO.Swo fun v u : Value => lexLt (k (backV v)) (k (backV u)) := swo_lexLt fun u => k (backV u)
  refine SrtO.sorted_ord O hl.isList (by rw [← rv.length]; exact hz) (fun h2 h₁ a' ha kk => hS its rv h2 h₁ a' ha kk) fun out h1 h2 => ?_
  obtain ⟨ep, he'⟩ := PyProof.Rows.sortedAll_at s.heap its out.toArray
  have h3 : ∀ u ∈ out, ∃ a, u = Value.ref a := fun u hu => e2 u (h2.perm.mem_iff.mp hu)
  have hp : (out.map backV).Perm xs := by
    rw [e1]
    exact h2.perm.map backV
  exact ⟨.ref (s.heap.objs.size + 1), upd H (s.heap.objs.size + 1) (.lst (out.map backV)), I.laid (t' := s.toks) (fun _ _ => PyProof.Rows.sortedAll_old) (Nat.le_succ _) ⟨by rw [hp.length_eq]; exact hz, out, ep, vals_back h3, he'⟩, rfl,
    q (out.map backV) _ (List.pairwise_map.mpr h1) hp (I.hok.fresh (Nat.le_succ _))⟩
/-! ### the two rules -/
def rSortPl (K : PySem.W.Frag) : List V → Hp → VK → Prop := fun vs H Q => ∃ (a : Addr) (xs : List V) (ps : List (List Int)) (n : Nat), vs = [.ref a] ∧ SqL K H a xs ∧ Reps H (ps.map plc) xs ∧ 0 < n ∧ (∀ p ∈ ps, p.length = n) ∧
  ∀ (p : Addr) (ys : List V) (ps' : List (List Int)), ps'.Perm ps → ps'.Pairwise (fun x y => lexLt y x = false) → Reps H (ps'.map plc) ys → H p = none → Q (.ref p) (upd H p (.lst ys))
theorem reps_mem {α : Type} {H : Hp} {enc : α → NestedKey} {ds : List α} {xs : List V} (r : Reps H (ds.map enc) xs) {x : V} (hx : x ∈ xs) : ∃ d ∈ ds, Rep H (enc d) x := by
  obtain ⟨i, hi⟩ := List.getElem?_of_mem hx
  obtain ⟨k, h1, h2⟩ := r.get' hi
  rw [List.getElem?_map] at h1
  obtain ⟨d, hd, e⟩ := Option.map_eq_some_iff.mp h1
  rw [← e] at h2
  exact ⟨d, List.mem_of_getElem? hd, h2⟩
theorem cr_sortPl : CallR X (.builtin "sorted") (rSortPl X.K) := by
  intro pins s σ H vs us Q I r h
  obtain ⟨a, xs, ps, n, rfl, hs, hr, hn, hl, q⟩ := h
  obtain ⟨u, rfl, ru⟩ := vals1 r
  cases (show u = Value.ref a from ru)
  have isref : ∀ x ∈ xs, ∃ t, x = V.ref t := fun x hx => by
    obtain ⟨d, _, a, _, e, _⟩ := reps_mem hr hx
    exact ⟨a, e⟩
  refine sort_core I hs isref (keyOf H plc id) (fun its rv h2 h₁ a' ha kk => ?_) fun ys p hsort hp hf => ?_
  · intro h' keep
    have keepT : ∀ b o, s.heap.get? b = some o → o.cls = .type "tuple" → h'.get? b = some o := fun b o e c => by
      obtain ⟨k1, k2⟩ := kk b o e
      exact keep b o k1 k2
    have info : ∀ v ∈ its, ∃ us, TupAt h' v us ∧ IntsAre us (keyOf H plc id (backV v)) ∧ (keyOf H plc id (backV v)).length = n := fun v hv => by
      obtain ⟨x, hx, rx⟩ := mem_vals rv hv
      obtain ⟨d, hd, hd2⟩ := reps_mem hr hx
      obtain ⟨us, t, i⟩ := tupAt_of I hd2 rx
      obtain ⟨t', et⟩ := isref x hx
      subst et
      cases (show v = Value.ref t' from rx)
      have ek : keyOf H plc id (backV (.ref t')) = d := keyOf_eq plc_inj (show Rep H (plc d) (backV (.ref t')) from hd2)
      exact ⟨us, t.keeps keepT, by rw [ek]; exact i, by rw [ek]; exact hl d hd⟩
    refine ⟨tuples' true, fun Q E hq => ?_, fun p q hm hm' => ?_⟩
    · obtain ⟨fs, f1, f2, f3⟩ := firsts_at (h := h') (P := fun u => ∃ x t, u = Value.int x t) its fun v hv => by
        obtain ⟨us, t, i, e⟩ := info v hv
        generalize keyOf H plc id (backV v) = z at i e
        cases i with
        | nil => simp at e; omega
        | cons x tk i => exact ⟨_, _, t, x, tk, rfl⟩
      refine PySem.W.kat_kind (s := { s with heap := h' }) (T := .type "int") f1 (by omega) (fun f hm => ?_) rfl ?_
      · obtain ⟨x, t, rfl⟩ := f3 f hm
        exact PySem.W.Looks.now
      · rw [show (Value.type "int" != Value.type "tuple") = true by decide]
        exact hq
    · obtain ⟨us, ⟨t1, o1, n1, ex, ho1, hc1, hd1⟩, i1, e1⟩ := info p.1 hm
      obtain ⟨ws, ⟨t2, o2, n2, ey, ho2, hc2, hd2⟩, i2, e2⟩ := info q.1 hm'
      show wpAny (model X.prog X.w) _ (keyLt' (tuples' true) p.1 q.1) (fun r s' => s' = { s with heap := h' } ∧ r = lexLt (keyOf H plc id (backV p.1)) (keyOf H plc id (backV q.1))) (fun _ _ => False) { s with heap := h' }
      generalize keyOf H plc id (backV p.1) = k1 at i1 e1 ⊢
      generalize keyOf H plc id (backV q.1) = k2 at i2 e2 ⊢
      rw [ex, ey]
      refine PySem.W.kat_lt (s := { s with heap := h' }) ho1 hd1 ho2 hd2 ?_
      have z1 := i1.length
      have z2 := i2.length
      have hsz : decide (us.toArray.size < ws.toArray.size) = false := decide_eq_false (by rw [List.size_toArray, List.size_toArray]; omega)
      rw [hsz]
      exact kat_ints i1 i2 (by omega) ⟨rfl, rfl⟩
  · obtain ⟨ps', p1, p2⟩ := reps_perm hp hr
    exact q p ys ps' p1 (pairwise_keys (key := id) plc_inj p2 hsort) p2 hf
/-! pairs of places -/
abbrev bkey (b : Box) : List Int := b.1 ++ b.2
def rSortBx (K : PySem.W.Frag) : List V → Hp → VK → Prop := fun vs H Q => ∃ (a : Addr) (xs : List V) (bs : List Box) (n : Nat), vs = [.ref a] ∧ SqL K H a xs ∧ Reps H (bs.map bxk) xs ∧ (∀ b ∈ bs, b.1.length = n ∧ b.2.length = n) ∧
  ∀ (p : Addr) (ys : List V) (bs' : List Box), bs'.Perm bs → bs'.Pairwise (fun x y => lexLt (bkey y) (bkey x) = false) → Reps H (bs'.map bxk) ys → H p = none → Q (.ref p) (upd H p (.lst ys))
theorem nested_keeps {h h' : Heap} (k : ∀ b o, h.get? b = some o → o.cls = .type "tuple" → h'.get? b = some o) : ∀ {p : List Int} {u : Value}, NestedIs h (plc p) u → NestedIs h' (plc p) u := by
  intro p u x
  have all : ∀ {ns : List Int} {vs : List Value}, NestedAll h (ns.map .num) vs → NestedAll h' (ns.map .num) vs := by
    intro ns
    induction ns with
    | nil => intro vs r; cases r; exact .nil
    | cons n ns ih =>
      intro vs r
      cases r with
      | cons r1 r2 =>
        refine .cons ?_ (ih r2)
        cases r1 with
        | bool e => exact .bool e
        | int _ t => exact .int _ t
  cases x with
  | tup hg hc hd hk => exact .tup (k _ _ hg hc) hc hd (all hk)
theorem tupAt_isTup {h : Heap} {v : Value} {its : List Value} (x : TupAt h v its) : ∃ a, v = .ref a ∧ IsTup h a its.toArray := by
  obtain ⟨a, o, n, e, ho, hc, hd⟩ := x
  exact ⟨a, e, o, ho, hc, n, hd⟩
theorem cr_sortBx (hu : X.A.units + 16 < cLine) : CallR X (.builtin "sorted") (rSortBx X.K) := by
  intro pins s σ H vs us Q I r h
  obtain ⟨a, xs, bs, n, rfl, hs, hr, hl, q⟩ := h
  obtain ⟨u, rfl, ru⟩ := vals1 r
  cases (show u = Value.ref a from ru)
  have isref : ∀ x ∈ xs, ∃ t, x = V.ref t := fun x hx => by
    obtain ⟨d, _, a, _, e, _⟩ := reps_mem hr hx
    exact ⟨a, e⟩
  refine sort_core I hs isref (keyOf H bxk bkey) (fun its rv h2 h₁ a' ha kk => ?_) fun ys p hsort hp hf => ?_
  · intro h' keep
    have keepT : ∀ b o, s.heap.get? b = some o → o.cls = .type "tuple" → h'.get? b = some o := fun b o e c => by
      obtain ⟨k1, k2⟩ := kk b o e
      exact keep b o k1 k2
    have info : ∀ v ∈ its, ∃ (lo hi : List Int) (u1 u2 : Value) (us ws : List Value), TupAt h' v [u1, u2] ∧ NestedIs h' (plc lo) u1 ∧ NestedIs h' (plc hi) u2 ∧ TupAt h' u1 us ∧ IntsAre us lo ∧ TupAt h' u2 ws ∧ IntsAre ws hi ∧ lo.length = n ∧ hi.length = n ∧
        keyOf H bxk bkey (backV v) = lo ++ hi := fun v hv => by
      obtain ⟨x, hx, rx⟩ := mem_vals rv hv
      obtain ⟨d, hd, hd2⟩ := reps_mem hr hx
      obtain ⟨t', et⟩ := isref x hx
      subst et
      cases (show v = Value.ref t' from rx)
      have ek : keyOf H bxk bkey (backV (.ref t')) = bkey d := keyOf_eq bxk_inj (show Rep H (bxk d) (backV (.ref t')) from hd2)
      obtain ⟨t, ws0, e0, hT, x1, r1, e1, y1, x2, r2, e2, y2, e3⟩ := hd2
      cases e0
      rw [e1, e2, show r2 = [] from e3] at hT
      obtain ⟨_, its0, rv0, o, ho, hc, m, hdd⟩ := I.hok t' _ hT
      obtain ⟨w1, w2, rfl, z1, z2⟩ := vals2 rv0
      obtain ⟨us, t1, i1⟩ := tupAt_of I y1 z1
      obtain ⟨us2, t2, i2⟩ := tupAt_of I y2 z2
      have n1 : NestedIs s.heap (plc d.1) w1 := Rep.key I y1 z1
      have n2 : NestedIs s.heap (plc d.2) w2 := Rep.key I y2 z2
      exact ⟨d.1, d.2, w1, w2, us, us2, ⟨t', o, m, rfl, keepT _ _ ho hc, hc, hdd⟩, nested_keeps keepT n1, nested_keeps keepT n2, t1.keeps keepT, i1, t2.keeps keepT, i2, (hl d hd).1, (hl d hd).2, ek⟩
    refine ⟨tuples' false, fun Q E hq => ?_, fun p q hm hm' => ?_⟩
    · obtain ⟨fs, f1, f2, f3⟩ := firsts_at (h := h') (P := fun u => ∃ a o, u = Value.ref a ∧ h'.get? a = some o ∧ o.cls = .type "tuple") its fun v hv => by
        obtain ⟨lo, hi, u1, u2, us, ws, t, _, _, ⟨a1, o1, _, e1, g1, g2, _⟩, _⟩ := info v hv
        exact ⟨u1, [u2], t, a1, o1, e1, g1, g2⟩
      refine PySem.W.kat_kind (s := { s with heap := h' }) (T := .type "tuple") f1 (by omega) (fun f hm => ?_) rfl ?_
      · obtain ⟨a1, o1, rfl, g1, g2⟩ := f3 f hm
        rw [← g2]
        exact (PySem.W.Looks.ld g1).andThen PySem.W.Looks.now
      · rw [show (Value.type "tuple" != Value.type "tuple") = false by decide]
        exact hq
    · obtain ⟨lo1, hi1, u1, u2, us, ws, ⟨t1, o1, m1, ex, ho1, hc1, hd1⟩, n1, n2, T1, i1, T2, i2, l1, l2, k1⟩ := info p.1 hm
      obtain ⟨lo2, hi2, v1, v2, vs, zs, ⟨t2, o2, m2, ey, ho2, hc2, hd2⟩, n3, n4, T3, i3, T4, i4, l3, l4, k2⟩ := info q.1 hm'
      show wpAny (model X.prog X.w) _ (keyLt' (tuples' false) p.1 q.1) (fun r s' => s' = { s with heap := h' } ∧ r = lexLt (keyOf H bxk bkey (backV p.1)) (keyOf H bxk bkey (backV q.1))) (fun _ _ => False) { s with heap := h' }
      rw [k1, k2, ex, ey]
      obtain ⟨a1, rfl, S1⟩ := tupAt_isTup T1
      obtain ⟨a2, rfl, S2⟩ := tupAt_isTup T2
      obtain ⟨a3, rfl, S3⟩ := tupAt_isTup T3
      obtain ⟨a4, rfl, S4⟩ := tupAt_isTup T4
      refine PySem.W.kat_lt (s := { s with heap := h' }) ho1 hd1 ho2 hd2 ?_
      rw [show decide (([Value.ref a1, Value.ref a2] : List Value).toArray.size < ([Value.ref a3, Value.ref a4] : List Value).toArray.size) = false from rfl]
      rw [lexLt_app lo1 lo2 hi1 hi2 (by omega)]
      have dp : ∀ k : List Int, (plc k).depth ≤ 1 := fun k => by
        show NestedKey.depthAll _ + 1 ≤ 1
        have : NestedKey.depthAll (k.map NestedKey.num) ≤ 0 := depthAll_le fun x hx => by
          obtain ⟨i, _, rfl⟩ := List.mem_map.mp hx
          exact Nat.le_refl _
        omega
      have room : ∀ k k' : List Int, (X.A.in1.in1).units + min (plc k).depth (plc k').depth < cLine := fun k k' => by
        have := dp k
        show X.A.units + 1 + 1 + _ < _
        omega
      refine PySem.W.kat_cons (eqAt_key (plc lo1) (plc lo2) _ { s with heap := h' } _ _ n1 n3 (room lo1 lo2) X.prog X.w _ _ ?_)
      have beq1 : NestedKey.beq (plc lo1) (plc lo2) = decide (lo1 = lo2) := by
        rw [← NestedKey.decide_eq]
        exact decide_eq_decide.mpr ⟨plc_inj, fun e => by rw [e]⟩
      have beq2 : NestedKey.beq (plc hi1) (plc hi2) = decide (hi1 = hi2) := by
        rw [← NestedKey.decide_eq]
        exact decide_eq_decide.mpr ⟨plc_inj, fun e => by rw [e]⟩
      refine PySem.W.kat_go (fun e1 => ?_) (fun e1 => ?_)
      · rw [beq1, decide_eq_true_eq] at e1
        rw [if_pos e1]
        refine PySem.W.kat_yes (PySem.W.kat_cons (eqAt_key (plc hi1) (plc hi2) _ { s with heap := h' } _ _ n2 n4 (room hi1 hi2) X.prog X.w _ _ ?_))
        refine PySem.W.kat_go (fun e2 => ?_) (fun e2 => ?_)
        · rw [beq2, decide_eq_true_eq] at e2
          rw [e2, lexLt_self]
          exact PySem.W.kat_yes (PySem.W.kat_nil ⟨rfl, rfl⟩)
        · exact PySem.W.kat_no (PySem.W.kat_one _ _ (HT.lt_tupInts (s := { s with heap := h' }) S2 S4 i2 i4 (show X.A.units + 1 + 1 < cLine by omega) ⟨rfl, rfl⟩))
      · rw [beq1, decide_eq_false_iff_not] at e1
        rw [if_neg e1]
        exact PySem.W.kat_no (PySem.W.kat_one _ _ (HT.lt_tupInts (s := { s with heap := h' }) S1 S3 i1 i3 (show X.A.units + 1 + 1 < cLine by omega) ⟨rfl, rfl⟩))
  · obtain ⟨bs', p1, p2⟩ := reps_perm hp hr
    exact q p ys bs' p1 (pairwise_keys (key := bkey) bxk_inj p2 hsort) p2 hf
end
end Bx

set_option Elab.async false
set_option linter.all false
set_option maxRecDepth 100000
set_option maxHeartbeats 2000000
/-! sorted(xs, key=f), f a def of the text that hands back a whole number and changes nothing. -/
namespace Bx
open PySem PySem.Spec PyProof.Rows L2

section
variable {X : Cx} {pins : List (Addr × Obj)} {σ : L2.St} {H : Hp} {s : Shared}
/-- an object of ours that is not tracked is tracked from here on -/
theorem adopt {D : Addr} {o : HO} (I : Inv X pins σ H s) (f : FpOk X pins H D) (new : ObjOk X.prog X.w (upd H D o) s.heap D o) : Inv X pins σ (upd H D o) s := by
  have hn := f.1
  refine I.step (g' := s.gens) (d' := s.drawn) (t' := s.toks) (h' := s.heap) (ch := [D]) (fun b hb => ?_) (fun b ob _ _ _ e _ => e) (fun b ob _ _ _ e _ => ⟨ob.slots, e⟩) (fun b ob hb e n => ?_) (fun b ob _ e => ⟨ob, e⟩) (fun b xs e => ?_) (fun b ob u e => ?_) (fun b ps e => ⟨#[], ?_⟩) (fun m hm => hm) (fun b u e => ?_) I.bare
  · rw [List.mem_singleton.mp hb]
    exact ⟨f.2.2.2.1, f.2.1, f.2.2.2.2.1, f.2.2.2.2.2⟩
  · rw [upd_ne (fun z => hb (by simp [z]))]; exact n
  · rw [upd_ne (ne_of_none e hn)]; exact e
  · rw [upd_ne (ne_of_none e hn)]; exact e
  · rw [upd_ne (ne_of_none e hn), e]; simp
  · by_cases hb : b = D
    · subst hb
      rw [upd_same] at e
      cases e
      exact new
    · rw [upd_ne hb] at e
      exact (I.hok b u e).stay (fun c v _ q => q) (fun c q => by rw [upd_ne (ne_of_none q hn)]; exact q) fun c xs q => by rw [upd_ne (ne_of_none q hn)]; exact q
end

/-- all objects of a heap but three -/
def others (h : Heap) (L a b : Addr) : List (Addr × Obj) := (List.range h.objs.size).filterMap fun c => if c = L ∨ c = a ∨ c = b then none else (h.get? c).map fun o => (c, o)
theorem mem_others {h : Heap} {L a b c : Addr} {o : Obj} : (c, o) ∈ others h L a b ↔ c ≠ L ∧ c ≠ a ∧ c ≠ b ∧ h.get? c = some o := by
  unfold others
  rw [List.mem_filterMap]
  constructor
  · rintro ⟨d, _, e⟩
    split at e
    · cases e
    · rename_i hd
      obtain ⟨o', ho, e'⟩ := Option.map_eq_some_iff.mp e
      cases e'
      exact ⟨fun q => hd (.inl q), fun q => hd (.inr (.inl q)), fun q => hd (.inr (.inr q)), ho⟩
  · rintro ⟨n1, n2, n3, ho⟩
    refine ⟨c, List.mem_range.mpr (Heap.lt_size ho), ?_⟩
    rw [if_neg (show ¬ (c = L ∨ c = a ∨ c = b) from fun q => q.elim n1 fun q => q.elim n2 n3), ho]
    rfl

section
variable {X : Cx}
/-- the sorted list: the pairs (key, item) rearranged, the keys rising -/
def KeySorted (kz : List Int) (xs ys : List V) : Prop := ∃ ps : List (Int × V), ps.Perm (kz.zip xs) ∧ ys = ps.map (·.2) ∧ ps.Pairwise fun p q => p.1 ≤ q.1
def rSortKey (K : PySem.W.Frag) (f : Addr) (sp : Sp) : List V → List V → Hp → VK → Prop := fun vs zs H Q => ∃ (a : Addr) (xs : List V) (kz : List Int), vs = [.ref a] ∧ zs = [.ref f] ∧ SqL K H a xs ∧ (∀ x ∈ xs, ∃ t, x = V.ref t) ∧ kz.length = xs.length ∧
  (∀ (i : Nat) x k, xs[i]? = some x → kz[i]? = some k → ∀ H1, Same H H1 → ∀ Q1 : VK, (∀ H2, Same H1 H2 → Q1 (.int k) H2) → sp [x] H1 Q1 E0) ∧
  ∀ ys p H', KeySorted kz xs ys → Same H H' → H' p = none → Q (.ref p) (upd H' p (.lst ys))
theorem zip_back : ∀ {kz : List Int} {us : List Value}, (kz.zip us).map (fun p => (p.1, backV p.2)) = kz.zip (us.map backV)
  | [], _ => by simp
  | _ :: _, [] => by simp
  | k :: kz, u :: us => by
    simp only [List.zip_cons_cons, List.map_cons]
    rw [zip_back]
theorem cr_sortKey {k : Nat} {f : Addr} {fd : FuncData} {ps : List Str} {sp : Sp} (F : FnOk X.prog X.w X.K X.mg X.base CX0 k f fd ps sp) (hr : Room (k + 2) X.A) (hb : Binds X.K fd ps []) :
    CallRK X (.builtin "sorted") [Str.ofString "key"] (rSortKey X.K f sp) := by
  intro pins s σ H vs zs us ws Q I r rz h
  obtain ⟨a, xs, kz, rfl, rfl, hs, hrefs, hlen, turn, q⟩ := h
  obtain rfl := Vals.ref1 r
  obtain rfl := Vals.ref1 rz
  obtain ⟨its, rv, hl, hz⟩ := I.list hs
  obtain ⟨eb1, eb2⟩ := refs_back rv hrefs
  have hli : its.length = xs.length := rv.length.symm
  have hzs : its.length ≤ sizeLine := by rw [hli]; exact hz
  have hz2 := hzs
  rw [sizeLine_eq] at hz2
  have hh : X.A.handled = none := hr.hd
  show wpAny _ _ (call (.builtin "sorted") [.ref a] [(Str.ofString "key", Value.ref f)]) _ _ s
  refine call_function_entry_kw kind_sorted plain_sorted entry_sorted (ksk_s1 _ _) ?_
  unfold Builtin.«sorted»
  refine wpAny_bind (m := checkCount "sorted" 1 1 _) (wpAny_pure ?_)
  refine wpAny_bind (collect_list hl.isList ?_ hzs)
  refine wpAny_bind (wpAny_newList ?_ hzs)
  generalize hh1 : ((s.heap.push (seqObj "list" #[] 0)).update s.heap.objs.size (Obj.mapSeq (· ++ its.toArray))) = g1
  have g1sz : g1.objs.size = s.heap.objs.size + 1 := by rw [← hh1, Heap.size_update, size_push']
  have g1k : ∀ b o, s.heap.get? b = some o → g1.get? b = some o := fun b o e => by
    rw [← hh1, Heap.get?_update_ne _ _ _ _ (Nat.ne_of_lt (Heap.lt_size e))]
    exact Heap.get?_push_of_some _ e
  show wpAny _ _ _ _ _ { s with heap := g1.push (seqObj "list" its.toArray 0) }
  have hDo : (g1.push (seqObj "list" its.toArray 0)).get? g1.objs.size = some (seqObj "list" its.toArray 0) := Heap.get?_push_size _ rfl
  refine wpAny_bind (wpAny_holding (wpAny_call_entry_kw slot_list_sort ⟨_, hDo, rfl⟩ entry_list_sort ?_ (ksk_l1 _ _)))
  rw [ksk_t1]
  -- the sort by keys, the new list at D
  generalize hD : g1.objs.size = D at hDo ⊢
  generalize hg2 : g1.push (seqObj "list" its.toArray 0) = g2 at hDo ⊢
  have g2sz : g2.objs.size = D + 1 := by rw [← hg2, size_push', hD]
  have g2k : ∀ b o, s.heap.get? b = some o → g2.get? b = some o := fun b o e => by rw [← hg2]; exact Heap.get?_push_of_some _ (g1k b o e)
  have hDs : s.heap.objs.size ≤ D := by rw [← hD, g1sz]; exact Nat.le_succ _
  unfold ksk_tree
  refine wpAny_bind (listItems_at (s := { s with heap := g2 }) hDo rfl ?_)
  refine wpAny_bind (listUpdate_at (s := { s with heap := g2 }) hDo rfl ?_ (by rw [List.size_toArray]; exact hzs) (Nat.zero_le _))
  obtain ⟨e1, ho1⟩ : ∃ e1, (g2.update D (Obj.mapSeq fun _ => (#[] : Array Value))).get? D = some (seqObj "list" #[] e1) := ⟨_, get?_update_seq hDo fun _ => #[]⟩
  have g3k : ∀ b o, b ≠ D → g2.get? b = some o → (g2.update D (Obj.mapSeq fun _ => (#[] : Array Value))).get? b = some o := fun b o hb e => (Heap.get?_update_ne _ _ _ _ hb).trans e
  have g3sz : (g2.update D (Obj.mapSeq fun _ => (#[] : Array Value))).objs.size = D + 1 := by rw [Heap.size_update, g2sz]
  generalize g2.update D (Obj.mapSeq fun _ => (#[] : Array Value)) = g3 at ho1 g3k g3sz ⊢
  refine wpAny_bind (seqEpoch_at (s := { s with heap := g3 }) ho1 rfl ?_)
  refine wpAny_bind (wpAny_newTuple ?_ (by show its.length ≤ _; exact hzs))
  refine wpAny_bind (wpAny_newList ?_ (Nat.zero_le _))
  refine wpAny_holding ?_
  have ho2 : ((g3.push (seqObj "tuple" its.toArray 0)).push (seqObj "list" #[] 0)).get? D = some (seqObj "list" #[] e1) := Heap.get?_push_of_some _ (Heap.get?_push_of_some _ ho1)
  have hK2 : ((g3.push (seqObj "tuple" its.toArray 0)).push (seqObj "list" #[] 0)).get? (g3.push (seqObj "tuple" its.toArray 0)).objs.size = some (seqObj "list" #[] 0) := Heap.get?_push_size _ rfl
  have hKS : (g3.push (seqObj "tuple" its.toArray 0)).objs.size = D + 2 := by rw [size_push', g3sz]
  have g4k : ∀ b o, s.heap.get? b = some o → ((g3.push (seqObj "tuple" its.toArray 0)).push (seqObj "list" #[] 0)).get? b = some o := fun b o e =>
    Heap.get?_push_of_some _ (Heap.get?_push_of_some _ (g3k b o (Nat.ne_of_lt (Nat.lt_of_lt_of_le (Heap.lt_size e) hDs)) (g2k b o e)))
  show wpAny _ _ (ksk_rest D (.ref f) false its.toArray e1 (.ref (g3.push (seqObj "tuple" its.toArray 0)).objs.size)) _ _ { s with heap := (g3.push (seqObj "tuple" its.toArray 0)).push (seqObj "list" #[] 0) }
  rw [hKS] at hK2 ⊢
  generalize (g3.push (seqObj "tuple" its.toArray 0)).push (seqObj "list" #[] 0) = g4 at ho2 hK2 g4k ⊢
  have I4 : Inv X pins σ H { s with heap := g4 } := I.kept (t' := s.toks) g4k
  have fD : ∀ {H' : Hp}, H' D = none → FpOk X pins H' D := fun n => I.fpOk hDs n
  have fK : ∀ {H' : Hp}, H' (D + 2) = none → FpOk X pins H' (D + 2) := fun n => I.fpOk (Nat.le_trans hDs (Nat.le_add_right _ _)) n
  have nD : H D = none := I.hok.fresh hDs
  have nK : H (D + 2) = none := I.hok.fresh (Nat.le_trans hDs (Nat.le_add_right _ _))
  have hKD : (D + 2 : Nat) ≠ D := by omega
  -- pins: D and the keys' list
  have pinned : ∀ {H' : Hp} {s' : Shared} {σ' : L2.St} {o1 o2 : Obj}, Inv X pins σ' H' s' → H' D = none → H' (D + 2) = none → s'.heap.get? D = some o1 → s'.heap.get? (D + 2) = some o2 → (∀ v, o1.data ≠ .cell v) → (∀ v, o2.data ≠ .cell v) →
      Inv X ((D, o1) :: (D + 2, o2) :: pins) σ' H' s' := fun {H' s' σ' o1 o2} J n1 n2 e1 e2 c1 c2 => J.pins_of fun p hp => by
    rcases List.mem_cons.mp hp with rfl | hp
    · exact ⟨e1, n1, (fD n1).2.1, (fD n1).2.2.1, c1⟩
    · rcases List.mem_cons.mp hp with rfl | hp
      · exact ⟨e2, n2, (fK n2).2.1, (fK n2).2.2.1, c2⟩
      · exact J.pin p (List.mem_append_right _ hp)
  have unpinned : ∀ {H' : Hp} {s' : Shared} {σ' : L2.St} {o1 o2 : Obj}, Inv X ((D, o1) :: (D + 2, o2) :: pins) σ' H' s' → Inv X pins σ' H' s' := fun {H' s' σ' o1 o2} J => J.pins_of fun p hp =>
    J.pin p (List.mem_append_right _ (List.mem_cons_of_mem _ (List.mem_cons_of_mem _ hp)))
  have nocell : ∀ (xs : Array Value) (e : Nat) (v : Option Value), (seqObj "list" xs e).data ≠ .cell v := fun xs e v z => by
    have z' : Data.seq xs e = Data.cell v := z
    cases z'
  unfold ksk_rest
  refine wpAny_bind (wpAny_rule ?_)
  rw [List.forIn_toArray]
  refine wpAny_bind (ksk_fold (fun i s' => ∃ H' kA e, Inv X ((D, seqObj "list" #[] e1) :: (D + 2, seqObj "list" kA e) :: pins) σ H' s' ∧ Same H H' ∧ IntsAre kA.toList (kz.take i)) its 0 _
    ⟨H, #[], 0, pinned I4 nD nK ho2 hK2 (nocell _ _) (nocell _ _), Same.refl H, by simpa using IntsAre.nil⟩ ?step ?done)
  case step =>
    rintro j u s' hu ⟨H', kA, e, J, sm, hk⟩
    simp only [Nat.zero_add] at hk ⊢
    have hj : j < its.length := (List.getElem?_eq_some_iff.mp hu).1
    have hjx : xs[j]? = some xs[j] := List.getElem?_eq_getElem (by omega)
    have hjk : kz[j]? = some kz[j] := List.getElem?_eq_getElem (by omega)
    obtain ⟨u', hu', ru⟩ := rv.get hjx
    cases hu'.symm.trans hu
    have ksz : kA.size ≤ its.length := by
      have h1 := hk.length
      rw [Array.length_toList, List.length_take] at h1
      omega
    have hbb := hb s' [u] J.kIn (by rw [List.append_nil]; exact (F.len _ _ _ _ (turn j _ _ hjx hjk H' sm (fun _ _ => True) fun _ _ => trivial)).symm ▸ rfl)
    rw [List.append_nil] at hbb
    have run : wpAny (model X.prog X.w) X.A.in1.in1 (call (.ref f) [u]) (EP X ((D, seqObj "list" #[] e1) :: (D + 2, seqObj "list" kA e) :: pins) σ fun v H2 => v = .int kz[j] ∧ Same H' H2) (fun _ _ => False) s' := by
      refine wpAny_call (codeAny_mono (F.run X.A.in1.in1 X.stack s' H' ⟨[u], []⟩ [u] [xs[j]] (fun v H2 => v = .int kz[j] ∧ Same H' H2) E0 hr.in1.in1 (J.env0.in1.in1) hbb (.cons ru .nil) (turn j _ _ hjx hjk H' sm _ fun H2 z => ⟨rfl, z⟩)) fun r s'' hq => ?_)
      match r, hq with
      | .error e, hq => exact False.elim hq
      | .ok (.ret u), hq => exact J.after hq
      | .ok .next, hq => exact False.elim hq
      | .ok .brk, hq => exact False.elim hq
      | .ok .cont, hq => exact False.elim hq
    refine wpAny_bind (wpAny_attempt (wpAny_mono run (fun v s'' he => ?_) fun _ _ hF => hF.elim))
    obtain ⟨vv, H2, J2, rvv, rfl, sm2⟩ := he
    obtain ⟨t2, rfl⟩ := rvv
    try dsimp only
    obtain ⟨pD, nD2, _⟩ := J2.pin (D, seqObj "list" #[] e1) (by simp)
    obtain ⟨pK, nK2, _⟩ := J2.pin (D + 2, seqObj "list" kA e) (by simp)
    obtain ⟨c2, hc2⟩ : ∃ c2, (s''.heap.update (D + 2) (Obj.mapSeq (·.push (.int kz[j] t2)))).get? (D + 2) = some (seqObj "list" (kA.push (.int kz[j] t2)) c2) := ⟨_, get?_update_seq pK (·.push (.int kz[j] t2))⟩
    have ek : kz.take (j + 1) = kz.take j ++ [kz[j]] := by rw [List.take_add_one, hjk]; simp
    have ea : (kA.push (Value.int kz[j] t2)).toList = kA.toList ++ [Value.int kz[j] t2] := by simp
    obtain ⟨f0, f1, f2, f3, f4, f5⟩ := fK nK2
    have J3 : Inv X pins σ H2 { s'' with heap := s''.heap.update (D + 2) (Obj.mapSeq (·.push (.int kz[j] t2))) } := (unpinned J2).turned (t' := s''.toks) (fun b o hb e => (Heap.get?_update_ne _ _ _ _ hb).trans e) f0 f1 f3 f4 f5
    refine wpAny_bind (listUpdate_at pK rfl ?_ (by rw [sizeLine_eq]; omega) (Nat.le_trans (Nat.le_of_eq (Array.size_push ..)) (by rw [sizeLine_eq]; omega)))
    refine wpAny_pure ⟨rfl, H2, kA.push (.int kz[j] t2), c2, pinned J3 nD2 nK2 ((Heap.get?_update_ne _ _ _ _ (Ne.symm hKD)).trans pD) hc2 (nocell _ _) (nocell _ _), sm.trans sm2, ?_⟩
    rw [ea, ek]
    exact ksk_snoc hk
  case done =>
    rintro s' ⟨H', kA, e, J, sm, hk⟩
    have hk' : IntsAre kA.toList kz := by
      have e3 : kz.take (0 + its.length) = kz := List.take_of_length_le (by omega)
      rw [e3] at hk
      exact hk
    obtain ⟨pD, nD2, _⟩ := J.pin (D, seqObj "list" #[] e1) (by simp)
    obtain ⟨pK, nK2, _⟩ := J.pin (D + 2, seqObj "list" kA e) (by simp)
    have J0 := unpinned J
    try dsimp only
    refine wpAny_bind (listItems_at pK rfl ?_)
    obtain ⟨m, hm, _⟩ := J0.loc
    have dL : D ≠ X.env.locals := (fD nD2).2.1
    have kL : D + 2 ≠ X.env.locals := (fK nK2).2.1
    refine ksk_end_St (e := e) (h₀ := Att.noObjs s'.heap) (L := X.env.locals) (m := m) (news := others s'.heap X.env.locals D (D + 2)) (Att.fr_all hm) (fun p hp => ?_) hKD (fun p hp => ?_) (fun p hp => ?_) hk' (by omega) hzs fun h3 tk3 out c F3 N3 k3 => ?_
    · rcases List.mem_append.mp hp with hp | hp
      · obtain ⟨n1, n2, n3, e⟩ := mem_others.mp hp
        exact ⟨e, n1, Att.noObjs_get _ _⟩
      · rcases List.mem_cons.mp hp with rfl | hp
        · exact ⟨pK, kL, Att.noObjs_get _ _⟩
        · rw [List.mem_singleton.mp hp]
          exact ⟨pD, dL, Att.noObjs_get _ _⟩
    · obtain ⟨_, _, n3, _⟩ := mem_others.mp hp
      exact n3
    · obtain ⟨_, n2, _, _⟩ := mem_others.mp hp
      exact n2
    · have hD3 : h3.get? D = some (seqObj "list" out c) := (N3 _ List.mem_cons_self).1
      have keep : ∀ b o, b ≠ X.env.locals → b ≠ D → b ≠ D + 2 → s'.heap.get? b = some o → h3.get? b = some o := fun b o n1 n2 n3 e => (N3 (b, o) (List.mem_cons_of_mem _ (mem_others.mpr ⟨n1, n2, n3, e⟩))).1
      have fD2 := fD nD2
      have fK2 := fK nK2
      have J4 : Inv X pins σ H' { s' with heap := h3, toks := tk3 } := by
        have nit : ∀ b u, H' b = some u → b ≠ D ∧ b ≠ D + 2 ∧ b ≠ X.env.locals := fun b u e => ⟨ne_of_none e nD2, ne_of_none e nK2, ne_of_none e J0.free⟩
        refine J0.step (g' := s'.gens) (d' := s'.drawn) (t' := tk3) (ch := [D, D + 2]) (fun b hb => ?_) (fun b o hL _ hc e _ => keep b o hL (fun z => hc (by simp [z])) (fun z => hc (by simp [z])) e) (fun b o hL _ hc e _ => ⟨o.slots, keep b o hL (fun z => hc (by simp [z])) (fun z => hc (by simp [z])) e⟩)
          (fun _ _ _ _ n => n) (fun b o hc e => ?_) (fun _ _ e => e) (fun _ _ _ e => e) (fun b ps e => ⟨#[], by rw [e]; simp⟩) (fun m' hm' => ?_) (fun b u e => ?_) J0.bare
        · rcases List.mem_cons.mp hb with rfl | hb
          · exact ⟨fD2.2.2.2.1, fD2.2.1, fD2.2.2.2.2.1, fD2.2.2.2.2.2⟩
          · rw [List.mem_singleton.mp hb]
            exact ⟨fK2.2.2.2.1, fK2.2.1, fK2.2.2.2.2.1, fK2.2.2.2.2.2⟩
        · by_cases hL : b = X.env.locals
          · subst hL
            obtain ⟨oL, _, _, hoL, _⟩ := F3.ns
            exact ⟨oL, hoL⟩
          · exact ⟨o, keep b o hL (fun z => hc (by simp [z])) (fun z => hc (by simp [z])) e⟩
        · have em : m' = m := by
            obtain ⟨o1, es1, ep1, z1, z2, z3⟩ := hm'
            obtain ⟨o2, es2, ep2, y1, y2, y3⟩ := hm
            cases z1.symm.trans y1
            cases z2.symm.trans y2
            exact (funext fun x => (z3.2 x).symm.trans (y3.2 x))
          rw [em]
          exact F3.ns
        · refine (J0.hok b u e).stay (fun c v hc z => ?_) (fun _ z => z) fun _ _ z => z
          rcases hc with z' | z'
          · subst z'
            obtain ⟨n1, n2, n3⟩ := nit c u e
            exact keep c v n3 n1 n2 z
          · obtain ⟨n1, n2, n3⟩ := nit c _ z'
            exact keep c v n3 n1 n2 z
      obtain ⟨ps, p1, p2, p3, _⟩ := k3
      have hol : out.toList.length = xs.length := by
        rw [p2, List.length_map, p1.length_eq, List.length_zip]
        omega
      have o3 : ∀ u ∈ out.toList, ∃ a, u = Value.ref a := fun u hu => by
        rw [p2] at hu
        obtain ⟨p, hp, rfl⟩ := List.mem_map.mp hu
        obtain ⟨pa, pb⟩ := p
        exact eb2 _ (List.of_mem_zip (p1.mem_iff.mp hp)).2
      have ks : KeySorted kz xs (out.toList.map backV) := by
        refine ⟨ps.map fun p => (p.1, backV p.2), ?_, ?_, ?_⟩
        · have := p1.map fun p : Int × Value => (p.1, backV p.2)
          rw [zip_back, ← eb1] at this
          exact this
        · rw [p2, List.map_map, List.map_map]
          rfl
        · exact List.pairwise_map.mpr (p3.imp fun hpq => by simpa using hpq)
      refine ⟨_, rfl, ?_⟩
      refine wpAny_pure ⟨_, rfl, .ref D, upd H' D (.lst (out.toList.map backV)), adopt J4 (fD nD2) ⟨by rw [List.length_map, hol]; exact hz, out.toList, c, vals_back o3, ?_⟩, rfl, q _ D H' ks sm nD2⟩
      rw [Array.toArray_toList]
      exact hD3
end
end Bx

set_option Elab.async false
set_option linter.all false
set_option maxRecDepth 100000
set_option maxHeartbeats 1000000
/-! What stays, comprehensions over a list of data. -/
namespace Bx
open PySem PySem.Spec PyProof.Rows L2

/-- all tracked things stay but those of S -/
def Off (S : Addr → Prop) (H H' : Hp) : Prop := ∀ b o, ¬ S b → H b = some o → H' b = some o
abbrev nowhere : Addr → Prop := fun _ => False
theorem Off.refl {S : Addr → Prop} (H : Hp) : Off S H H := fun _ _ _ h => h
theorem Off.trans {S : Addr → Prop} {H H1 H2 : Hp} (a : Off S H H1) (b : Off S H1 H2) : Off S H H2 := fun c o n h => b c o n (a c o n h)
theorem Off.same {H H' : Hp} (a : Off nowhere H H') : Same H H' := fun b o h => a b o (fun z => z) h
theorem same_off {S : Addr → Prop} {H H' : Hp} (a : Same H H') : Off S H H' := fun b o _ h => a b o h
theorem Off.new {S : Addr → Prop} {H : Hp} {p : Addr} {o : HO} (h : H p = none) : Off S H (upd H p o) := fun b u _ e => by rw [upd_ne (ne_of_none e h)]; exact e
theorem same_new {H : Hp} {p : Addr} {o : HO} (h : H p = none) : Same H (upd H p o) := fun b u e => by rw [upd_ne (ne_of_none e h)]; exact e
theorem Off.at {S : Addr → Prop} {H : Hp} {p : Addr} {o : HO} (h : S p) : Off S H (upd H p o) := fun b u n e => by rw [upd_ne (fun z => n (by rw [z]; exact h))]; exact e
/-- what changes at a new address is not seen from before -/
theorem Off.fresh {S : Addr → Prop} {H H1 : Hp} {p : Addr} {o : HO} (h : H p = none) (a : Off S H H1) : Off S H (upd H1 p o) := fun b u n e => by
  rw [upd_ne (ne_of_none e h)]; exact a b u n e
theorem same_fresh {H H1 : Hp} {p : Addr} {o : HO} (h : H p = none) (a : Same H H1) : Same H (upd H1 p o) := fun b u e => by
  rw [upd_ne (ne_of_none e h)]; exact a b u e
theorem Off.mono {S S' : Addr → Prop} {H H' : Hp} (a : Off S H H') (i : ∀ b, S b → S' b) : Off S' H H' := fun b o n h => a b o (fun z => n (i b z)) h
theorem Off.none {S : Addr → Prop} {H H' : Hp} (a : Off S H H') {p : Addr} (n : ¬ S p) (h : H' p = Option.none) : H p = Option.none := by
  rcases e : H p with _ | o
  · rfl
  · rw [a p o n e] at h; cases h
theorem same_none {H H' : Hp} (a : Same H H') {p : Addr} (h : H' p = Option.none) : H p = Option.none := by
  rcases e : H p with _ | o
  · rfl
  · rw [a p o e] at h; cases h

theorem pr_get {α β : Type} {F : α → β → Prop} : ∀ {l : List α} {m : List β} {i : Nat} {a : α}, Paired F l m → l[i]? = some a → ∃ b, m[i]? = some b ∧ F a b
  | _, _, _, _, .nil, e => by simp at e
  | _, _, 0, _, .cons h _, e => by cases e; exact ⟨_, rfl, h⟩
  | _, _, i + 1, _, .cons _ t, e => by
    rw [List.getElem?_cons_succ] at e ⊢
    exact pr_get t e
theorem pr_imp {α β : Type} {F G : α → β → Prop} {l : List α} {m : List β} (h : Paired F l m) (k : ∀ a b, a ∈ l → F a b → G a b) : Paired G l m := by
  induction h with
  | nil => exact .nil
  | cons h t ih => exact .cons (k _ _ List.mem_cons_self h) (ih fun a b m f => k a b (List.mem_cons_of_mem _ m) f)
theorem pr_reps {α : Type} {H : Hp} {enc : α → NestedKey} {l : List α} {m : List V} (h : Paired (fun a v => Rep H (enc a) v) l m) : Reps H (l.map enc) m := by
  induction h with
  | nil => exact .nil
  | cons h t ih => exact .cons h ih
theorem pr_of_reps {α : Type} {H : Hp} {enc : α → NestedKey} : ∀ {l : List α} {m : List V}, Reps H (l.map enc) m → Paired (fun a v => Rep H (enc a) v) l m
  | [], _, h => by rw [show _ = _ from h]; exact .nil
  | _ :: _, _, ⟨x, r, e, h, hr⟩ => by rw [e]; exact .cons h (pr_of_reps hr)
theorem pr_eq_map {α : Type} {f : α → V} {l : List α} {m : List V} (h : Paired (fun a v => v = f a) l m) : m = l.map f := by
  induction h with
  | nil => rfl
  | cons h t ih => rw [h, ih]; rfl

theorem take_filter {α : Type} {l : List α} {i : Nat} {a : α} (p : α → Bool) (h : l[i]? = some a) : (l.take (i + 1)).filter p = (l.take i).filter p ++ (if p a = true then [a] else []) := by
  rw [List.take_add_one, h, List.filter_append]
  cases hp : p a <;> simp [hp]

section
variable {J : It} {n : Nat} {G : Hp → Prop} {Y : Nat → Hp → V → Hp → Prop} {α : Type}
/-- a comprehension: turn i is about as[i], kept if keep says so, its item then being as F says -/
theorem lc_if (as : List α) (keep : α → Bool) (F : α → Hp → V → Prop) {S : Addr → Prop} (Z : Hp → Prop) (w : Walk J n G Y) (hn : as.length = n) (hz : n ≤ sizeLine)
    {g : TG} {tt : TT} {te : TE} {vs : List Nat} {σ : L2.St} {H1 : Hp} {D : Addr} {Qd : Hp → Prop} (hD : H1 D = none) (nS : ¬ S D) (z0 : Z H1)
    (zD : ∀ H o, (H = H1 ∨ ∃ u, H D = some u) → Z H → Z (upd H D o))
    (hG : ∀ H, Off S H1 H → Z H → G H)
    (mono : ∀ a y H H', a ∈ as → (∃ acc, H D = some (.lst acc)) → Off (fun b => S b ∨ b = D) H H' → F a H y → F a H' y)
    (turn : ∀ i a x H H', as[i]? = some a → Off S H1 H → Z H → (∃ acc, H D = some (.lst acc)) → Y i H x H' →
      ∀ (Qy : VK) (Qn : Hp → Prop), (keep a = true → ∀ y H4, Off S H H4 → Z H4 → F a H4 y → Qy y H4) → (keep a = false → ∀ H4, Off S H H4 → Z H4 → Qn H4) →
      g x (wipe σ vs) H' fun σ2 H2 => wipe σ2 vs = wipe σ vs ∧ tt σ2 H2 fun b H3 => if b = true then te σ2 H3 Qy else Qn H3)
    (done : ∀ H ys, Off S H1 H → Z H → H D = some (.lst ys) → Paired (fun a v => F a H v) (as.filter keep) ys → Qd H) :
    ∃ W : Nat → Nat → Hp → Prop, (∃ m, W 0 m (upd H1 D (.lst []))) ∧ ∀ i m H, W i m H →
      (J.stop i H ∧ Qd H) ∨ (J.go i H ∧ ∃ Nx : Hp → Prop, (∀ H', Nx H' → ∃ m', m' < m ∧ W (i + 1) m' H') ∧ ∀ x H', J.yld i H x H' → g x (wipe σ vs) H' fun σ2 H2 => wipe σ2 vs = wipe σ vs ∧ tt σ2 H2 fun b H3 =>
        if b = true then te σ2 H3 fun y H4 => ∃ acc, H4 D = some (.lst acc) ∧ acc.length < sizeLine ∧ Nx (upd H4 D (.lst (acc ++ [y]))) else Nx H3) := by
  refine lc_it w (fun i H => Off S H1 H ∧ Z H ∧ ∃ acc, H D = some (.lst acc) ∧ acc.length ≤ i ∧ Paired (fun a v => F a H v) ((as.take i).filter keep) acc) ?_ ?_ ?_ ?_
  · exact ⟨Off.new hD, zD _ _ (.inl rfl) z0, [], upd_same, Nat.zero_le _, by simpa using Paired.nil⟩
  · rintro i H _ ⟨o, z, _⟩
    exact hG H o z
  · rintro i x H H' hi ⟨o, z, acc, hacc, hl, hp⟩ y
    have hi' : i < as.length := by omega
    have ha : as[i]? = some as[i] := List.getElem?_eq_getElem hi'
    refine turn i as[i] x H H' ha o z ⟨acc, hacc⟩ y _ _ (fun hk v H4 o4 z4 f4 => ?_) (fun hk H4 o4 z4 => ?_)
    · have e4 : H4 D = some (.lst acc) := o4 D _ nS hacc
      have o5 : Off (fun b => S b ∨ b = D) H4 (upd H4 D (.lst (acc ++ [v]))) := Off.at (.inr rfl)
      refine ⟨acc, e4, by omega, Off.fresh hD (o.trans o4), zD _ _ (.inr ⟨_, e4⟩) z4, acc ++ [v], upd_same, by rw [List.length_append]; exact Nat.add_le_add_right hl 1, ?_⟩
      rw [take_filter keep ha, hk]
      refine Paired.snoc (pr_imp (pr_imp hp fun a v hm f => mono a v _ _ (List.mem_of_mem_take (List.mem_filter.mp hm).1) ⟨acc, hacc⟩ (o4.mono fun b hb => .inl hb) f) fun a v hm f => mono a v _ _ (List.mem_of_mem_take (List.mem_filter.mp hm).1) ⟨acc, e4⟩ o5 f) (mono _ _ _ _ (List.mem_of_getElem? ha) ⟨acc, e4⟩ o5 f4)
    · have e4 : H4 D = some (.lst acc) := o4 D _ nS hacc
      refine ⟨o.trans o4, z4, acc, e4, by omega, ?_⟩
      rw [take_filter keep ha, hk]
      simpa using pr_imp hp fun a v hm f => mono a v _ _ (List.mem_of_mem_take (List.mem_filter.mp hm).1) ⟨acc, hacc⟩ (o4.mono fun b hb => .inl hb) f
  · rintro H ⟨o, z, acc, hacc, _, hp⟩
    rw [← hn, List.take_length] at hp
    exact done H acc o z hacc hp
/-- the same where nothing is dropped -/
theorem lc_all (as : List α) (F : α → Hp → V → Prop) {S : Addr → Prop} (Z : Hp → Prop) (w : Walk J n G Y) (hn : as.length = n) (hz : n ≤ sizeLine)
    {g : TG} {te : TE} {vs : List Nat} {σ : L2.St} {H1 : Hp} {D : Addr} {Qd : Hp → Prop} (hD : H1 D = none) (nS : ¬ S D) (z0 : Z H1)
    (zD : ∀ H o, (H = H1 ∨ ∃ u, H D = some u) → Z H → Z (upd H D o))
    (hG : ∀ H, Off S H1 H → Z H → G H)
    (mono : ∀ a y H H', a ∈ as → (∃ acc, H D = some (.lst acc)) → Off (fun b => S b ∨ b = D) H H' → F a H y → F a H' y)
    (turn : ∀ i a x H H', as[i]? = some a → Off S H1 H → Z H → (∃ acc, H D = some (.lst acc)) → Y i H x H' →
      ∀ Qy : VK, (∀ y H4, Off S H H4 → Z H4 → F a H4 y → Qy y H4) → g x (wipe σ vs) H' fun σ2 H2 => wipe σ2 vs = wipe σ vs ∧ te σ2 H2 Qy)
    (done : ∀ H ys, Off S H1 H → Z H → H D = some (.lst ys) → Paired (fun a v => F a H v) as ys → Qd H) :
    ∃ W : Nat → Nat → Hp → Prop, (∃ m, W 0 m (upd H1 D (.lst []))) ∧ ∀ i m H, W i m H →
      (J.stop i H ∧ Qd H) ∨ (J.go i H ∧ ∃ Nx : Hp → Prop, (∀ H', Nx H' → ∃ m', m' < m ∧ W (i + 1) m' H') ∧ ∀ x H', J.yld i H x H' → g x (wipe σ vs) H' fun σ2 H2 => wipe σ2 vs = wipe σ vs ∧ tYes σ2 H2 fun b H3 =>
        if b = true then te σ2 H3 fun y H4 => ∃ acc, H4 D = some (.lst acc) ∧ acc.length < sizeLine ∧ Nx (upd H4 D (.lst (acc ++ [y]))) else Nx H3) :=
  lc_if as (fun _ => true) F Z w hn hz hD nS z0 zD hG mono (fun i a x H H' ha o z hd y Qy _ k _ => turn i a x H H' ha o z hd y Qy (k rfl))
    fun H ys o z hd hp => done H ys o z hd (by rw [List.filter_eq_self.mpr fun _ _ => rfl] at hp; exact hp)
theorem tu_off {S : Addr → Prop} {D : Addr} {H H' : Hp} (h : ∃ acc, H D = some (.lst acc)) (hS : ∀ b, S b → ∀ xs, H b ≠ some (.tup xs)) (o : Off (fun b => S b ∨ b = D) H H') : Tu H H' := fun a xs e => o a _ (by
  obtain ⟨acc, h⟩ := h
  rintro (z | z)
  · exact hS a z xs e
  · subst z; rw [h] at e; cases e) e
/-- items that are data; nothing else changes -/
theorem lc_data (as : List α) (enc : α → NestedKey) (w : Walk J n G Y) (hn : as.length = n) (hz : n ≤ sizeLine)
    {g : TG} {te : TE} {vs : List Nat} {σ : L2.St} {H1 : Hp} {D : Addr} {Qd : Hp → Prop} (hD : H1 D = none) (hG : ∀ H, Same H1 H → G H)
    (turn : ∀ i a x H H', as[i]? = some a → Same H1 H → Y i H x H' → ∀ Qy : VK, (∀ y H4, Same H H4 → Rep H4 (enc a) y → Qy y H4) → g x (wipe σ vs) H' fun σ2 H2 => wipe σ2 vs = wipe σ vs ∧ te σ2 H2 Qy)
    (done : ∀ H ys, Same H1 H → H D = some (.lst ys) → Reps H (as.map enc) ys → Qd H) :
    ∃ W : Nat → Nat → Hp → Prop, (∃ m, W 0 m (upd H1 D (.lst []))) ∧ ∀ i m H, W i m H →
      (J.stop i H ∧ Qd H) ∨ (J.go i H ∧ ∃ Nx : Hp → Prop, (∀ H', Nx H' → ∃ m', m' < m ∧ W (i + 1) m' H') ∧ ∀ x H', J.yld i H x H' → g x (wipe σ vs) H' fun σ2 H2 => wipe σ2 vs = wipe σ vs ∧ tYes σ2 H2 fun b H3 =>
        if b = true then te σ2 H3 fun y H4 => ∃ acc, H4 D = some (.lst acc) ∧ acc.length < sizeLine ∧ Nx (upd H4 D (.lst (acc ++ [y]))) else Nx H3) :=
  lc_all as (fun a H y => Rep H (enc a) y) (S := nowhere) (fun _ => True) w hn hz hD (fun z => z) trivial (fun _ _ _ _ => trivial) (fun H o _ => hG H o.same)
    (fun a y H H' _ hd o r => r.mono (tu_off hd (fun _ z => z.elim) o)) (fun i a x H H' ha o _ _ y Qy k => turn i a x H H' ha o.same y Qy fun y H4 s r => k y H4 (same_off s) trivial r)
    fun H ys o _ hd hp => done H ys o.same hd (pr_reps hp)
/-- items that are known values; nothing else changes -/
theorem lc_vals (as : List α) (f : α → V) (w : Walk J n G Y) (hn : as.length = n) (hz : n ≤ sizeLine)
    {g : TG} {te : TE} {vs : List Nat} {σ : L2.St} {H1 : Hp} {D : Addr} {Qd : Hp → Prop} (hD : H1 D = none) (hG : ∀ H, Same H1 H → G H)
    (turn : ∀ i a x H H', as[i]? = some a → Same H1 H → Y i H x H' → ∀ Qy : VK, (∀ H4, Same H H4 → Qy (f a) H4) → g x (wipe σ vs) H' fun σ2 H2 => wipe σ2 vs = wipe σ vs ∧ te σ2 H2 Qy)
    (done : ∀ H, Same H1 H → H D = some (.lst (as.map f)) → Qd H) :
    ∃ W : Nat → Nat → Hp → Prop, (∃ m, W 0 m (upd H1 D (.lst []))) ∧ ∀ i m H, W i m H →
      (J.stop i H ∧ Qd H) ∨ (J.go i H ∧ ∃ Nx : Hp → Prop, (∀ H', Nx H' → ∃ m', m' < m ∧ W (i + 1) m' H') ∧ ∀ x H', J.yld i H x H' → g x (wipe σ vs) H' fun σ2 H2 => wipe σ2 vs = wipe σ vs ∧ tYes σ2 H2 fun b H3 =>
        if b = true then te σ2 H3 fun y H4 => ∃ acc, H4 D = some (.lst acc) ∧ acc.length < sizeLine ∧ Nx (upd H4 D (.lst (acc ++ [y]))) else Nx H3) :=
  lc_all as (fun a _ y => y = f a) (S := nowhere) (fun _ => True) w hn hz hD (fun z => z) trivial (fun _ _ _ _ => trivial) (fun H o _ => hG H o.same)
    (fun a y H H' _ hd o r => r) (fun i a x H H' ha o _ _ y Qy k => turn i a x H H' ha o.same y Qy fun H4 s => k _ H4 (same_off s) trivial rfl)
    fun H ys o _ hd hp => done H o.same (by rw [hd, pr_eq_map hp])
/-- items that are data, some dropped; nothing else changes -/
theorem lc_dataIf (as : List α) (keep : α → Bool) (enc : α → NestedKey) (w : Walk J n G Y) (hn : as.length = n) (hz : n ≤ sizeLine)
    {g : TG} {tt : TT} {te : TE} {vs : List Nat} {σ : L2.St} {H1 : Hp} {D : Addr} {Qd : Hp → Prop} (hD : H1 D = none) (hG : ∀ H, Same H1 H → G H)
    (turn : ∀ i a x H H', as[i]? = some a → Same H1 H → Y i H x H' → ∀ (Qy : VK) (Qn : Hp → Prop), (keep a = true → ∀ y H4, Same H H4 → Rep H4 (enc a) y → Qy y H4) → (keep a = false → ∀ H4, Same H H4 → Qn H4) →
      g x (wipe σ vs) H' fun σ2 H2 => wipe σ2 vs = wipe σ vs ∧ tt σ2 H2 fun b H3 => if b = true then te σ2 H3 Qy else Qn H3)
    (done : ∀ H ys, Same H1 H → H D = some (.lst ys) → Reps H ((as.filter keep).map enc) ys → Qd H) :
    ∃ W : Nat → Nat → Hp → Prop, (∃ m, W 0 m (upd H1 D (.lst []))) ∧ ∀ i m H, W i m H →
      (J.stop i H ∧ Qd H) ∨ (J.go i H ∧ ∃ Nx : Hp → Prop, (∀ H', Nx H' → ∃ m', m' < m ∧ W (i + 1) m' H') ∧ ∀ x H', J.yld i H x H' → g x (wipe σ vs) H' fun σ2 H2 => wipe σ2 vs = wipe σ vs ∧ tt σ2 H2 fun b H3 =>
        if b = true then te σ2 H3 fun y H4 => ∃ acc, H4 D = some (.lst acc) ∧ acc.length < sizeLine ∧ Nx (upd H4 D (.lst (acc ++ [y]))) else Nx H3) :=
  lc_if as keep (fun a H y => Rep H (enc a) y) (S := nowhere) (fun _ => True) w hn hz hD (fun z => z) trivial (fun _ _ _ _ => trivial) (fun H o _ => hG H o.same)
    (fun a y H H' _ hd o r => r.mono (tu_off hd (fun _ z => z.elim) o)) (fun i a x H H' ha o _ _ y Qy Qn k k' => turn i a x H H' ha o.same y Qy Qn (fun e y H4 s r => k e y H4 (same_off s) trivial r) fun e H4 s => k' e H4 (same_off s) trivial)
    fun H ys o _ hd hp => done H ys o.same hd (pr_reps hp)
end

/-- a list of data that one may change -/
def Ls (H : Hp) (a : Addr) (ks : List NestedKey) : Prop := ∃ xs, H a = some (.lst xs) ∧ Reps H ks xs
theorem Ls.same {H H' : Hp} {a : Addr} {ks : List NestedKey} (l : Ls H a ks) (s : Same H H') : Ls H' a ks := by
  obtain ⟨xs, h, r⟩ := l
  exact ⟨xs, s _ _ h, r.mono (Bx.Same.tu s)⟩
end Bx

set_option Elab.async false
set_option linter.all false
set_option maxRecDepth 100000
set_option maxHeartbeats 1000000
/-! The text: its defs, what the top leaves, calls by name. -/
namespace Bx
open PySem PySem.Spec PyProof.Rows L2
def topS (i : Nat) : Stmt := PySem.Challenge.pw_boxsums_k18_whole_halves_changed.main.body.getD i (.Pass ⟨0, 0, 0, 0⟩)
abbrev s_is_whole : Stmt := topS 4
theorem sc_is_whole : FnScope ["thing"] ["thing"] (defScope s_is_whole) := ⟨rfl, rfl, rfl, by decide +kernel, rfl, by decide +kernel, by decide +kernel⟩
abbrev s_is_place : Stmt := topS 5
theorem sc_is_place : FnScope ["sides", "thing", "one", "side"] ["sides", "thing"] (defScope s_is_place) := ⟨rfl, rfl, rfl, by decide +kernel, rfl, by decide +kernel, by decide +kernel⟩
abbrev s_is_box : Stmt := topS 6
theorem sc_is_box : FnScope ["sides", "thing", "one", "first", "last"] ["sides", "thing"] (defScope s_is_box) := ⟨rfl, rfl, rfl, by decide +kernel, rfl, by decide +kernel, by decide +kernel⟩
abbrev s_number_of : Stmt := topS 7
theorem sc_number_of : FnScope ["sides", "place", "found", "side", "one"] ["sides", "place"] (defScope s_number_of) := ⟨rfl, rfl, rfl, by decide +kernel, rfl, by decide +kernel, by decide +kernel⟩
abbrev s_cell_at : Stmt := topS 8
theorem sc_cell_at : FnScope ["field", "place"] ["field", "place"] (defScope s_cell_at) := ⟨rfl, rfl, rfl, by decide +kernel, rfl, by decide +kernel, by decide +kernel⟩
abbrev s_places_between : Stmt := topS 9
theorem sc_places_between : FnScope ["low", "high", "found", "first", "last", "longer", "place", "one"] ["low", "high"] (defScope s_places_between) := ⟨rfl, rfl, rfl, by decide +kernel, rfl, by decide +kernel, by decide +kernel⟩
abbrev s_halved : Stmt := topS 11
theorem sc_halved : FnScope ["low", "high"] ["low", "high"] (defScope s_halved) := ⟨rfl, rfl, rfl, by decide +kernel, rfl, by decide +kernel, by decide +kernel⟩
abbrev s_stretches : Stmt := topS 12
theorem sc_stretches : FnScope ["side", "found", "at", "low", "high", "middle"] ["side"] (defScope s_stretches) := ⟨rfl, rfl, rfl, by decide +kernel, rfl, by decide +kernel, by decide +kernel⟩
abbrev s_cover : Stmt := topS 13
theorem sc_cover : FnScope ["side", "low", "high", "found", "waiting", "here", "there", "middle"] ["side", "low", "high"] (defScope s_cover) := ⟨rfl, rfl, rfl, by decide +kernel, rfl, by decide +kernel, by decide +kernel⟩
abbrev s_cells_in : Stmt := topS 15
theorem sc_cells_in : FnScope ["field", "box", "place"] ["field", "box"] (defScope s_cells_in) := ⟨rfl, rfl, rfl, by decide +kernel, rfl, by decide +kernel, by decide +kernel⟩
abbrev s_products : Stmt := topS 17
theorem sc_products : FnScope ["rows", "found", "row", "longer", "low", "high", "here", "there"] ["rows"] (defScope s_products) := ⟨rfl, rfl, rfl, by decide +kernel, rfl, by decide +kernel, by decide +kernel⟩
abbrev s_half_boxes : Stmt := topS 18
theorem sc_half_boxes : FnScope ["sides", "side"] ["sides"] (defScope s_half_boxes) := ⟨rfl, rfl, rfl, by decide +kernel, rfl, by decide +kernel, by decide +kernel⟩
abbrev s_told_of : Stmt := topS 19
theorem sc_told_of : FnScope ["numbers"] ["numbers"] (defScope s_told_of) := ⟨rfl, rfl, rfl, by decide +kernel, rfl, by decide +kernel, by decide +kernel⟩
abbrev s_halves_of : Stmt := topS 20
theorem sc_halves_of : FnScope ["field", "box"] ["field"] (defScope s_halves_of) := ⟨rfl, rfl, rfl, by decide +kernel, rfl, by decide +kernel, by decide +kernel⟩
abbrev s_parts_of : Stmt := topS 21
theorem sc_parts_of : FnScope ["box", "way", "low", "high", "middle", "first"] ["box", "way"] (defScope s_parts_of) := ⟨rfl, rfl, rfl, by decide +kernel, rfl, by decide +kernel, by decide +kernel⟩
abbrev s_joined : Stmt := topS 22
theorem sc_joined : FnScope ["one", "other"] ["one", "other"] (defScope s_joined) := ⟨rfl, rfl, rfl, by decide +kernel, rfl, by decide +kernel, by decide +kernel⟩
abbrev s_is_entry : Stmt := topS 23
theorem sc_is_entry : FnScope ["thing", "number"] ["thing"] (defScope s_is_entry) := ⟨rfl, rfl, rfl, by decide +kernel, rfl, by decide +kernel, by decide +kernel⟩
abbrev s_stands_right : Stmt := topS 24
theorem sc_stands_right : FnScope ["field", "known", "box", "low", "high", "way", "first", "second"] ["field", "known", "box"] (defScope s_stands_right) := ⟨rfl, rfl, rfl, by decide +kernel, rfl, by decide +kernel, by decide +kernel⟩
abbrev s_holds_halves : Stmt := topS 25
theorem sc_holds_halves : FnScope ["field", "thing", "boxes", "known", "entry", "box"] ["field", "thing"] (defScope s_holds_halves) := ⟨rfl, rfl, rfl, by decide +kernel, rfl, by decide +kernel, by decide +kernel⟩
abbrev s_box_cover : Stmt := topS 26
theorem sc_box_cover : FnScope ["sides", "box", "low", "high", "way", "side"] ["sides", "box"] (defScope s_box_cover) := ⟨rfl, rfl, rfl, by decide +kernel, rfl, by decide +kernel, by decide +kernel⟩
abbrev s_by_halves : Stmt := topS 27
theorem sc_by_halves : FnScope ["sides", "table", "box", "known", "some", "found", "one"] ["sides", "table", "box"] (defScope s_by_halves) := ⟨rfl, rfl, rfl, by decide +kernel, rfl, by decide +kernel, by decide +kernel⟩
abbrev s_has_place : Stmt := topS 28
theorem sc_has_place : FnScope ["box", "place", "low", "number", "high"] ["box", "place"] (defScope s_has_place) := ⟨rfl, rfl, rfl, by decide +kernel, rfl, by decide +kernel, by decide +kernel⟩
abbrev s_put_together : Stmt := topS 29
theorem sc_put_together : FnScope ["known", "box", "way", "first", "second", "at"] ["known", "box"] (defScope s_put_together) := ⟨rfl, rfl, rfl, by decide +kernel, rfl, by decide +kernel, by decide +kernel⟩
abbrev s_cells_many : Stmt := topS 30
theorem sc_cells_many : FnScope ["box", "found", "low", "high"] ["box"] (defScope s_cells_many) := ⟨rfl, rfl, rfl, by decide +kernel, rfl, by decide +kernel, by decide +kernel⟩
abbrev s_changed_halves : Stmt := topS 31
theorem sc_changed_halves : FnScope ["sides", "table", "place", "number", "known", "boxes", "box", "told"] ["sides", "table", "place", "number"] (defScope s_changed_halves) := ⟨rfl, rfl, rfl, by decide +kernel, rfl, by decide +kernel, by decide +kernel⟩
abbrev s__law_pen : Stmt := topS 33
theorem sc__law_pen : FnScope ["_law_script"] ["_law_script"] (defScope s__law_pen) := ⟨rfl, rfl, rfl, by decide +kernel, rfl, by decide +kernel, by decide +kernel⟩
abbrev s__law_take : Stmt := topS 34
theorem sc__law_take : FnScope ["_law_pen_here", "_law_most_here", "_law_found", "_law_at", "_law_cell", "_law_number_here"] ["_law_pen_here", "_law_most_here"] (defScope s__law_take) := ⟨rfl, rfl, rfl, by decide +kernel, rfl, by decide +kernel, by decide +kernel⟩
abbrev s__law_number : Stmt := topS 35
theorem sc__law_number : FnScope ["_law_pen_here", "_law_way"] ["_law_pen_here"] (defScope s__law_number) := ⟨rfl, rfl, rfl, by decide +kernel, rfl, by decide +kernel, by decide +kernel⟩
abbrev s__law_sides : Stmt := topS 36
theorem sc__law_sides : FnScope ["_law_pen_here", "_law_most_here", "_law_wide", "_law_side"] ["_law_pen_here"] (defScope s__law_sides) := ⟨rfl, rfl, rfl, by decide +kernel, rfl, by decide +kernel, by decide +kernel⟩
abbrev s__law_places : Stmt := topS 37
theorem sc__law_places : FnScope ["_law_sides_here", "_law_found", "_law_side", "_law_longer", "_law_place", "_law_number_here"] ["_law_sides_here"] (defScope s__law_places) := ⟨rfl, rfl, rfl, by decide +kernel, rfl, by decide +kernel, by decide +kernel⟩
abbrev s__law_field : Stmt := topS 38
theorem sc__law_field : FnScope ["_law_pen_here", "_law_sides_here", "_law_places_here", "_law_cells", "_law_place"] ["_law_pen_here"] (defScope s__law_field) := ⟨rfl, rfl, rfl, by decide +kernel, rfl, by decide +kernel, by decide +kernel⟩
abbrev s__law_within : Stmt := topS 39
theorem sc__law_within : FnScope ["_law_known", "_law_low", "_law_high", "_law_found", "_law_place", "_law_number_here", "_law_a", "_law_p", "_law_b"] ["_law_known", "_law_low", "_law_high"] (defScope s__law_within) := ⟨rfl, rfl, rfl, by decide +kernel, rfl, by decide +kernel, by decide +kernel⟩
abbrev s__law_box : Stmt := topS 40
theorem sc__law_box : FnScope ["_law_pen_here", "_law_sides_here", "_law_way", "_law_low", "_law_high", "_law_side", "_law_a"] ["_law_pen_here", "_law_sides_here"] (defScope s__law_box) := ⟨rfl, rfl, rfl, by decide +kernel, rfl, by decide +kernel, by decide +kernel⟩
abbrev s__law_stretches : Stmt := topS 41
theorem sc__law_stretches : FnScope ["_law_side", "_law_found", "_law_waiting", "_law_low", "_law_high"] ["_law_side"] (defScope s__law_stretches) := ⟨rfl, rfl, rfl, by decide +kernel, rfl, by decide +kernel, by decide +kernel⟩
abbrev s__law_same : Stmt := topS 42
theorem sc__law_same : FnScope ["_law_found", "_law_due_here"] ["_law_found", "_law_due_here"] (defScope s__law_same) := ⟨rfl, rfl, rfl, by decide +kernel, rfl, by decide +kernel, by decide +kernel⟩
abbrev s__law_half_boxes : Stmt := topS 43
theorem sc__law_half_boxes : FnScope ["_law_sides_here", "_law_found", "_law_side", "_law_longer", "_law_low", "_law_high", "_law_a", "_law_b"] ["_law_sides_here"] (defScope s__law_half_boxes) := ⟨rfl, rfl, rfl, by decide +kernel, rfl, by decide +kernel, by decide +kernel⟩
abbrev s__law_due : Stmt := topS 44
theorem sc__law_due : FnScope ["_law_sides_here", "_law_known", "_law_found", "_law_low", "_law_high", "_law_some"] ["_law_sides_here", "_law_known"] (defScope s__law_due) := ⟨rfl, rfl, rfl, by decide +kernel, rfl, by decide +kernel, by decide +kernel⟩
abbrev s__law_has : Stmt := topS 45
theorem sc__law_has : FnScope ["_law_box_here", "_law_place", "_law_a", "_law_p", "_law_b"] ["_law_box_here", "_law_place"] (defScope s__law_has) := ⟨rfl, rfl, rfl, by decide +kernel, rfl, by decide +kernel, by decide +kernel⟩
abbrev s__law_most : Stmt := topS 46
theorem sc__law_most : FnScope ["_law_sides_here", "_law_found", "_law_side", "_law_reach"] ["_law_sides_here"] (defScope s__law_most) := ⟨rfl, rfl, rfl, by decide +kernel, rfl, by decide +kernel, by decide +kernel⟩
abbrev s__law_answer : Stmt := topS 47
theorem sc__law_answer : FnScope ["_law_known", "_law_box_here", "_law_some"] ["_law_known", "_law_box_here"] (defScope s__law_answer) := ⟨rfl, rfl, rfl, by decide +kernel, rfl, by decide +kernel, by decide +kernel⟩
abbrev s__law_step : Stmt := topS 48
theorem sc__law_step : FnScope ["_law_pen_here", "_law_sides_here", "_law_table", "_law_known", "_law_place", "_law_number_here", "_law_handed", "_law_told", "_law_later", "_law_due_here", "_law_boxes", "_law_later_ones", "_law_fields", "_law_ahead", "_law_box_here", "_law_entry", "_law_some", "_law_spot"] ["_law_pen_here", "_law_sides_here", "_law_table", "_law_known", "_law_place", "_law_number_here"] (defScope s__law_step) := ⟨rfl, rfl, rfl, by decide +kernel, rfl, by decide +kernel, by decide +kernel⟩
abbrev s_law : Stmt := topS 49
theorem sc_law : FnScope ["_law_script", "_law_pen_here", "_law_k", "_law_field_here", "_law_known", "_law_sides_here", "_law_places_here", "_law_table", "_law_first", "_law_place", "_law_turn", "_law_number_here", "_law_former"] ["_law_script"] (defScope s_law) := ⟨rfl, rfl, rfl, by decide +kernel, rfl, by decide +kernel, by decide +kernel⟩
/-- the scope of the comprehension of _law_step that holds another -/
abbrev sc_inner : Scope := { kind := .function, names := [(".0", .local), ("_law_some", .cell), ("tuple", .globalImplicit), ("sorted", .globalImplicit), ("list", .globalImplicit), ("_law_sides_here", .free)], isGenerator := false, isCoroutine := false, more := [] }
/-- a def of the text, by its name -/
structure Df (K : PySem.W.Frag) (mg : Str → Option Value) (x : Str) (st : Stmt) (ps : List Str) : Prop where
  ex : ∃ f fd, Fun K x x st f fd ∧ mg x = some (.ref f) ∧ Binds K fd ps []
structure Tx (K : PySem.W.Frag) (mg : Str → Option Value) : Prop where
  d_is_whole : Df K mg "is_whole" s_is_whole ["thing"]
  d_is_place : Df K mg "is_place" s_is_place ["sides", "thing"]
  d_is_box : Df K mg "is_box" s_is_box ["sides", "thing"]
  d_number_of : Df K mg "number_of" s_number_of ["sides", "place"]
  d_cell_at : Df K mg "cell_at" s_cell_at ["field", "place"]
  d_places_between : Df K mg "places_between" s_places_between ["low", "high"]
  d_halved : Df K mg "halved" s_halved ["low", "high"]
  d_stretches : Df K mg "stretches" s_stretches ["side"]
  d_cover : Df K mg "cover" s_cover ["side", "low", "high"]
  d_cells_in : Df K mg "cells_in" s_cells_in ["field", "box"]
  d_products : Df K mg "products" s_products ["rows"]
  d_half_boxes : Df K mg "half_boxes" s_half_boxes ["sides"]
  d_told_of : Df K mg "told_of" s_told_of ["numbers"]
  d_halves_of : Df K mg "halves_of" s_halves_of ["field"]
  d_parts_of : Df K mg "parts_of" s_parts_of ["box", "way"]
  d_joined : Df K mg "joined" s_joined ["one", "other"]
  d_is_entry : Df K mg "is_entry" s_is_entry ["thing"]
  d_stands_right : Df K mg "stands_right" s_stands_right ["field", "known", "box"]
  d_holds_halves : Df K mg "holds_halves" s_holds_halves ["field", "thing"]
  d_box_cover : Df K mg "box_cover" s_box_cover ["sides", "box"]
  d_by_halves : Df K mg "by_halves" s_by_halves ["sides", "table", "box"]
  d_has_place : Df K mg "has_place" s_has_place ["box", "place"]
  d_put_together : Df K mg "put_together" s_put_together ["known", "box"]
  d_cells_many : Df K mg "cells_many" s_cells_many ["box"]
  d_changed_halves : Df K mg "changed_halves" s_changed_halves ["sides", "table", "place", "number"]
  d__law_pen : Df K mg "_law_pen" s__law_pen ["_law_script"]
  d__law_take : Df K mg "_law_take" s__law_take ["_law_pen_here", "_law_most_here"]
  d__law_number : Df K mg "_law_number" s__law_number ["_law_pen_here"]
  d__law_sides : Df K mg "_law_sides" s__law_sides ["_law_pen_here"]
  d__law_places : Df K mg "_law_places" s__law_places ["_law_sides_here"]
  d__law_field : Df K mg "_law_field" s__law_field ["_law_pen_here"]
  d__law_within : Df K mg "_law_within" s__law_within ["_law_known", "_law_low", "_law_high"]
  d__law_box : Df K mg "_law_box" s__law_box ["_law_pen_here", "_law_sides_here"]
  d__law_stretches : Df K mg "_law_stretches" s__law_stretches ["_law_side"]
  d__law_same : Df K mg "_law_same" s__law_same ["_law_found", "_law_due_here"]
  d__law_half_boxes : Df K mg "_law_half_boxes" s__law_half_boxes ["_law_sides_here"]
  d__law_due : Df K mg "_law_due" s__law_due ["_law_sides_here", "_law_known"]
  d__law_has : Df K mg "_law_has" s__law_has ["_law_box_here", "_law_place"]
  d__law_most : Df K mg "_law_most" s__law_most ["_law_sides_here"]
  d__law_answer : Df K mg "_law_answer" s__law_answer ["_law_known", "_law_box_here"]
  d__law_step : Df K mg "_law_step" s__law_step ["_law_pen_here", "_law_sides_here", "_law_table", "_law_known", "_law_place", "_law_number_here"]
  d_law : Df K mg "law" s_law ["_law_script"]
  z_abs : mg "abs" = none
  z_all : mg "all" = none
  z_bool : mg "bool" = none
  z_dict : mg "dict" = none
  z_enumerate : mg "enumerate" = none
  z_int : mg "int" = none
  z_isinstance : mg "isinstance" = none
  z_len : mg "len" = none
  z_list : mg "list" = none
  z_max : mg "max" = none
  z_min : mg "min" = none
  z_range : mg "range" = none
  z_repr : mg "repr" = none
  z_sorted : mg "sorted" = none
  z_sum : mg "sum" = none
  z_tuple : mg "tuple" = none
  z_zip : mg "zip" = none

structure Cal (P : Program) (w : World) (K : PySem.W.Frag) (mg : Str → Option Value) (base : Heap) (k : Nat) (x : Str) (sp : Sp) : Prop where
  ex : ∃ (f : Addr) (fd : FuncData) (ps : List Str), FnOk P w K mg base CX0 k f fd ps sp ∧ mg x = some (.ref f) ∧ PySem.W.keepIn K (.ref f) = true ∧ Binds K fd ps []
structure CalG (P : Program) (w : World) (K : PySem.W.Frag) (mg : Str → Option Value) (base : Heap) (k : Nat) (x : Str) (sp : Sp) : Prop where
  ex : ∃ (f : Addr) (fd : FuncData) (ps : List Str), FnG P w K mg base k f fd ps sp ∧ mg x = some (.ref f) ∧ PySem.W.keepIn K (.ref f) = true ∧ Binds K fd ps []
section
variable {P : Program} {w : World} {K : PySem.W.Frag} {mg : Str → Option Value} {base : Heap} {k : Nat} {x : Str} {st : Stmt} {N ps : List Str} {sp : Sp}
theorem cal_of (D : Df K mg x st ps) (S : FnScope N ps (defScope st)) (len : ∀ vs H Q E, sp vs H Q E → vs.length = ps.length)
    (body : ∀ (f : Addr) (cdv : Value) (A : Around) (outer : List Env) (s : Shared) (H : Hp) (vs : List V) (Q : VK) (E : XK), Room k (A.deeper (envOfC x (defScope st) s.heap.objs.size f cdv)) → sp vs H Q E →
      ∃ t, PSs (cxOf CX0 P w K mg base N x (defScope st) f cdv A outer s H E).nox (defBody st) t ∧ t { nx := fun _ H' => Q .non H', rt := Q } (start N vs) H) : Cal P w K mg base (k + 1) x sp := by
  obtain ⟨f, fd, F, m, b⟩ := D.ex
  exact ⟨f, fd, ps, F.ok S len (body f), m, F.kp, b⟩
theorem calG_of (D : Df K mg x st ps) (S : FnScope N ps (defScope st)) (len : ∀ vs H Q E, sp vs H Q E → vs.length = ps.length)
    (body : ∀ (f : Addr) (cdv : Value) (A : Around) (outer : List Env) (s : Shared) (H : Hp) (vs : List V) (Q : VK) (E : XK), A.guards = some [] → Room k (A.deeper (envOfC x (defScope st) s.heap.objs.size f cdv)) → sp vs H Q E →
      ∃ t, PSs (cxOf CX0 P w K mg base N x (defScope st) f cdv A outer s H E).nox (defBody st) t ∧ t { nx := fun _ H' => Q .non H', rt := Q } (start N vs) H) : CalG P w K mg base (k + 1) x sp := by
  obtain ⟨f, fd, F, m, b⟩ := D.ex
  exact ⟨f, fd, ps, okG F S len (body f), m, F.kp, b⟩
end
section
variable {X : Cx} {k j : Nat} {x : Str} {sp : Sp} {p pos : Pos} {e : Expr} {es : List Expr} {t : TA}
theorem pe_c (c : Cal X.prog X.w X.K X.mg X.base k x sp) (hr : Room j X.A) (hk : k ≤ j) (hg : Gl X x) (ha : PA X (e :: es) t)
    (hdb : (x == ("__debug__" : Str)) = false := by decide) (he : starEach (e :: es) X.env = (false, eval e X.env) :: starEach es X.env := by rfl) (hpl : (backTo pos (starEach es X.env)).any (·.1) = false := by rfl) :
    PE X (.Call (.Name x p) (e :: es) [] pos) (tCall sp [] E0 t) := by
  obtain ⟨f, fd, ps, F, hm, kp, b⟩ := c.ex
  exact pe_call F (hr.mono hk) hg hm kp b .nil pass0 ha hdb he hpl
theorem pe_cg (c : CalG X.prog X.w X.K X.mg X.base k x sp) (hgd : X.A.guards = some []) (hr : Room j X.A) (hk : k ≤ j) (hg : Gl X x) (ha : PA X (e :: es) t)
    (hdb : (x == ("__debug__" : Str)) = false := by decide) (he : starEach (e :: es) X.env = (false, eval e X.env) :: starEach es X.env := by rfl) (hpl : (backTo pos (starEach es X.env)).any (·.1) = false := by rfl) :
    PE X (.Call (.Name x p) (e :: es) [] pos) (tCall sp [] E0 t) := by
  obtain ⟨f, fd, ps, F, hm, kp, b⟩ := c.ex
  exact pe_callG F hgd (hr.mono hk) hg hm kp b ha hdb he hpl
theorem hu64 {A : Around} (hr : Room j A) : A.units + 64 < cLine := hr.units
theorem hu16 {A : Around} (hr : Room j A) : A.units + 16 < cLine := by have := hr.units; omega
/-- tuple(a list or a tuple) -/
def rTupOf (K : PySem.W.Frag) : List V → Hp → VK → Prop := fun xs H Q => ∃ p ys, xs = [.ref p] ∧ ((SqL K H p ys ∧ ∀ l, H l = none → Q (.ref l) (upd H l (.tup ys))) ∨ (SqT K H p ys ∧ Q (.ref p) H))
theorem call_tupA : CallR X (.type "tuple") (rTupOf X.K) := call_tuple_of
/-- x is not True, of two bools -/
theorem op_isntB : OpR X (compareOp .IsNot) (fun x y H Q => ∃ a b, x = .bl a ∧ y = .bl b ∧ Q (.bl (!decide (a = b))) H) := by
  intro pins s σ H x y v u Q I rx ry h
  obtain ⟨a, b, rfl, rfl, q⟩ := h
  cases (show v = Value.bool a from rx)
  cases (show u = Value.bool b from ry)
  exact wpAny_isNot_plain rfl (fin_bl I q (by cases a <;> cases b <;> rfl))
end
end Bx

set_option Elab.async false
set_option linter.all false
set_option maxRecDepth 100000
set_option maxHeartbeats 1000000
/-! Plain mathematics: ranges, places, cells of a box, sorting. -/
namespace Bx
open PySem PySem.Spec PyProof.Rows L2
abbrev Pl := List Int

/-! ### a .. b -/
def rg (a b : Int) : List Int := (List.range (b + 1 - a).toNat).map fun i : Nat => a + (i : Int)
theorem mem_rg {a b x : Int} : x ∈ rg a b ↔ a ≤ x ∧ x ≤ b := by
  unfold rg
  simp only [List.mem_map, List.mem_range]
  constructor
  · rintro ⟨i, hi, rfl⟩; omega
  · intro h; exact ⟨(x - a).toNat, by omega, by omega⟩
theorem rg_len (a b : Int) : (rg a b).length = (b + 1 - a).toNat := by simp [rg]
theorem rg_get {a b : Int} {i : Nat} (h : i < (b + 1 - a).toNat) : (rg a b)[i]? = some (a + (i : Int)) := by simp [rg, h]
theorem rg_nil {a b : Int} (h : b < a) : rg a b = [] := by
  unfold rg
  rw [show (b + 1 - a).toNat = 0 by omega]; rfl
theorem rg_lt (a b : Int) : (rg a b).Pairwise (· < ·) := by
  unfold rg
  exact List.pairwise_map.mpr (List.pairwise_lt_range.imp fun h => by omega)
theorem rg_one (a : Int) : rg a a = [a] := by
  unfold rg
  rw [show (a + 1 - a).toNat = 1 by omega]; simp
theorem rg_split {a m b : Int} (h1 : a ≤ m + 1) (h2 : m ≤ b) : rg a b = rg a m ++ rg (m + 1) b := by
  apply List.ext_getElem?
  intro i
  by_cases hi : i < (m + 1 - a).toNat
  · rw [List.getElem?_append_left (by rw [rg_len]; exact hi), rg_get hi, rg_get (by omega)]
  · rw [List.getElem?_append_right (by rw [rg_len]; omega), rg_len]
    by_cases hj : i < (b + 1 - a).toNat
    · rw [rg_get hj, rg_get (by omega)]
      congr 1; omega
    · rw [List.getElem?_eq_none (by rw [rg_len]; omega), List.getElem?_eq_none (by rw [rg_len]; omega)]
theorem rg_filter {lo hi a b : Int} (h1 : lo ≤ a) (h2 : b ≤ hi) : (rg lo hi).filter (fun x => decide (a ≤ x) && decide (x ≤ b)) = rg a b := by
  by_cases h : b < a
  · rw [rg_nil h, List.filter_eq_nil_iff]
    intro x _ hx
    simp at hx; omega
  · rw [rg_split (a := lo) (m := a - 1) (b := hi) (by omega) (by omega), show a - 1 + 1 = a by omega, rg_split (a := a) (m := b) (b := hi) (by omega) (by omega), List.filter_append, List.filter_append]
    rw [List.filter_eq_nil_iff.mpr (fun x hx z => by have := mem_rg.mp hx; simp at z; omega), List.filter_eq_self.mpr (fun x hx => by have := mem_rg.mp hx; simp; omega),
      List.filter_eq_nil_iff.mpr (fun x hx z => by have := mem_rg.mp hx; simp at z; omega)]
    simp

/-! ### sorting -/
theorem sorted_uniq {α : Type} {key : α → List Int} (inj : ∀ a b, key a = key b → a = b) {l m : List α} (hp : l.Perm m) (hl : l.Pairwise fun x y => lexLt (key y) (key x) = false) (hm : m.Pairwise fun x y => lexLt (key y) (key x) = false) : l = m :=
  hp.eq_of_pairwise (fun a b _ _ h1 h2 => inj a b (lexLt_tri _ _ h2 h1)) hl hm
def srt {α : Type} (key : α → List Int) (l : List α) : List α := l.mergeSort fun a b => !lexLt (key b) (key a)
theorem srt_perm {α : Type} (key : α → List Int) (l : List α) : (srt key l).Perm l := List.mergeSort_perm l _
theorem srt_sorted {α : Type} (key : α → List Int) (l : List α) : (srt key l).Pairwise fun x y => lexLt (key y) (key x) = false := by
  have h := List.pairwise_mergeSort (le := fun a b => !lexLt (key b) (key a)) (fun a b c h1 h2 => ?_) (fun a b => ?_) l
  · exact h.imp fun h => by simpa using h
  · have h1 : lexLt (key b) (key a) = false := by simpa using h1
    have h2 : lexLt (key c) (key b) = false := by simpa using h2
    show (!lexLt (key c) (key a)) = true
    cases h3 : lexLt (key c) (key a) with
    | false => rfl
    | true =>
      exfalso
      cases h4 : lexLt (key a) (key b) with
      | true => rw [lexLt_trans _ _ _ h3 h4] at h2; cases h2
      | false =>
        have e := lexLt_tri _ _ h4 h1
        rw [e] at h3; rw [h3] at h2; cases h2
  · cases h1 : lexLt (key b) (key a) with
    | false => simp
    | true => simp [lexLt_asym _ _ h1]
theorem srt_of {α : Type} {key : α → List Int} (inj : ∀ a b, key a = key b → a = b) {l m : List α} (hp : m.Perm l) (hm : m.Pairwise fun x y => lexLt (key y) (key x) = false) : m = srt key l :=
  sorted_uniq inj (hp.trans (srt_perm key l).symm) hm (srt_sorted key l)
theorem srt_self {α : Type} {key : α → List Int} (inj : ∀ a b, key a = key b → a = b) {l : List α} (h : l.Pairwise fun x y => lexLt (key x) (key y) = true) : srt key l = l :=
  (srt_of inj (List.Perm.refl l) (h.imp fun z => lexLt_asym _ _ z)).symm
theorem srt_congr {α : Type} {key : α → List Int} (inj : ∀ a b, key a = key b → a = b) {l m : List α} (hp : l.Perm m) : srt key l = srt key m :=
  srt_of inj ((srt_perm key l).trans hp) (srt_sorted key l)

/-! ### places -/
def pb : List (Int × Int) → List Pl
  | [] => [[]]
  | r :: rs => (rg r.1 r.2).flatMap fun x => (pb rs).map (x :: ·)
def pbStep (found : List Pl) (r : Int × Int) : List Pl := found.flatMap fun p => (rg r.1 r.2).map fun x => p ++ [x]
theorem pb_fold : ∀ (rs : List (Int × Int)) (found : List Pl), rs.foldl pbStep found = found.flatMap fun p => (pb rs).map (p ++ ·)
  | [], found => by simp [pb]
  | r :: rs, found => by
    rw [List.foldl_cons, pb_fold rs]
    simp only [pb, pbStep, List.flatMap_assoc, List.flatMap_map, List.map_flatMap, List.map_map]
    congr 1; funext p; congr 1; funext x; congr 1; funext q; simp
theorem pb_fold0 (rs : List (Int × Int)) : rs.foldl pbStep [[]] = pb rs := by rw [pb_fold]; simp
def pls (sd : List Int) : List Pl := pb (sd.map fun s => (0, s - 1))
def szs : List Int → Nat
  | [] => 1
  | s :: sd => s.toNat * szs sd
def inB : Pl → Pl → Pl → Bool
  | a :: lo, b :: hi, x :: p => (decide (a ≤ x) && decide (x ≤ b)) && inB lo hi p
  | _, _, _ => true
def OkB : List Int → Pl → Pl → Prop
  | [], [], [] => True
  | s :: sd, a :: lo, b :: hi => (0 ≤ a ∧ a ≤ b ∧ b < s) ∧ OkB sd lo hi
  | _, _, _ => False
def OkP : List Int → Pl → Prop
  | [], [] => True
  | s :: sd, x :: p => (0 ≤ x ∧ x < s) ∧ OkP sd p
  | _, _ => False
theorem mem_pls : ∀ {sd : List Int} {p : Pl}, p ∈ pls sd ↔ OkP sd p
  | [], p => by
    cases p <;> simp [pls, pb, OkP]
  | s :: sd, [] => by simp [pls, pb, OkP]
  | s :: sd, x :: p => by
    have ih := @mem_pls sd p
    simp only [pls, List.map_cons, pb, List.mem_flatMap, List.mem_map, OkP] at ih ⊢
    constructor
    · rintro ⟨y, hy, q, hq, e⟩
      cases e
      have := mem_rg.mp hy
      exact ⟨by omega, ih.mp hq⟩
    · rintro ⟨h, hp⟩
      exact ⟨x, mem_rg.mpr (by omega), p, ih.mpr hp, rfl⟩
theorem OkP.len : ∀ {sd : List Int} {p : Pl}, OkP sd p → p.length = sd.length
  | [], [], _ => rfl
  | [], _ :: _, h => h.elim
  | _ :: _, [], h => h.elim
  | _ :: _, _ :: _, h => by simp [OkP.len h.2]
theorem OkB.len : ∀ {sd : List Int} {lo hi : Pl}, OkB sd lo hi → lo.length = sd.length ∧ hi.length = sd.length
  | [], [], [], _ => ⟨rfl, rfl⟩
  | [], [], _ :: _, h => h.elim
  | [], _ :: _, _, h => h.elim
  | _ :: _, [], _, h => h.elim
  | _ :: _, _ :: _, [], h => h.elim
  | _ :: _, _ :: _, _ :: _, h => by simp [OkB.len h.2]
theorem OkB.low : ∀ {sd : List Int} {lo hi : Pl}, OkB sd lo hi → OkP sd lo
  | [], [], [], _ => trivial
  | [], [], _ :: _, h => h.elim
  | [], _ :: _, _, h => h.elim
  | _ :: _, [], _, h => h.elim
  | _ :: _, _ :: _, [], h => h.elim
  | _ :: _, _ :: _, _ :: _, h => ⟨by have := h.1; omega, OkB.low h.2⟩
theorem OkB.high : ∀ {sd : List Int} {lo hi : Pl}, OkB sd lo hi → OkP sd hi
  | [], [], [], _ => trivial
  | [], [], _ :: _, h => h.elim
  | [], _ :: _, _, h => h.elim
  | _ :: _, [], _, h => h.elim
  | _ :: _, _ :: _, [], h => h.elim
  | _ :: _, _ :: _, _ :: _, h => ⟨by have := h.1; omega, OkB.high h.2⟩
theorem OkB.of_place : ∀ {sd : List Int} {p : Pl}, OkP sd p → OkB sd p p
  | [], [], _ => trivial
  | [], _ :: _, h => h.elim
  | _ :: _, [], h => h.elim
  | _ :: _, _ :: _, h => ⟨by have := h.1; omega, OkB.of_place h.2⟩
theorem flatMap_if {α β : Type} (q : α → Bool) (f : α → List β) : ∀ l : List α, (l.flatMap fun x => if q x = true then f x else []) = (l.filter q).flatMap f
  | [] => rfl
  | x :: l => by
    rw [List.flatMap_cons, flatMap_if q f l]
    cases h : q x <;> simp [h]
def cells (b : Box) : List Pl := pb (b.1.zip b.2)
theorem cells_filter : ∀ {sd : List Int} {lo hi : Pl}, OkB sd lo hi → pb (lo.zip hi) = (pls sd).filter (inB lo hi)
  | [], [], [], _ => by simp [pb, pls, inB]
  | [], [], _ :: _, h => h.elim
  | [], _ :: _, _, h => h.elim
  | _ :: _, [], _, h => h.elim
  | _ :: _, _ :: _, [], h => h.elim
  | s :: sd, a :: lo, b :: hi, h => by
    have ih := cells_filter h.2
    have h1 := h.1
    unfold pls at ih ⊢
    rw [List.map_cons, pb, List.zip_cons_cons, pb, List.filter_flatMap, ih]
    have e : ∀ x : Int, List.filter (inB (a :: lo) (b :: hi)) ((pb (sd.map fun s => (0, s - 1))).map (x :: ·)) =
        if (decide (a ≤ x) && decide (x ≤ b)) = true then ((pb (sd.map fun s => (0, s - 1))).filter (inB lo hi)).map (x :: ·) else [] := by
      intro x
      rw [List.filter_map]
      cases hx : (decide (a ≤ x) && decide (x ≤ b)) with
      | true =>
        rw [if_pos rfl]
        congr 1
        apply List.filter_congr
        intro p _
        simp only [Function.comp, inB, hx, Bool.true_and]
      | false =>
        rw [if_neg Bool.false_ne_true, List.map_eq_nil_iff, List.filter_eq_nil_iff]
        intro p _
        simp only [Function.comp, inB, hx, Bool.false_and]
        exact Bool.false_ne_true
    simp only [e]
    rw [flatMap_if (fun x => decide (a ≤ x) && decide (x ≤ b)), rg_filter (lo := 0) (hi := s - 1) (by omega) (by omega)]
theorem mem_cells {sd : List Int} {b : Box} (h : OkB sd b.1 b.2) {p : Pl} : p ∈ cells b ↔ OkP sd p ∧ inB b.1 b.2 p = true := by
  unfold cells
  rw [cells_filter h, List.mem_filter, mem_pls]
theorem inB_self : ∀ p : Pl, inB p p p = true
  | [] => rfl
  | x :: p => by simp [inB, inB_self p]
theorem low_in : ∀ {sd : List Int} {lo hi : Pl}, OkB sd lo hi → inB lo hi lo = true
  | [], [], [], _ => rfl
  | [], [], _ :: _, h => h.elim
  | [], _ :: _, _, h => h.elim
  | _ :: _, [], _, h => h.elim
  | _ :: _, _ :: _, [], h => h.elim
  | _ :: _, _ :: _, _ :: _, h => by have := h.1; simp [inB, low_in h.2]; omega
theorem cells_ne {sd : List Int} {b : Box} (h : OkB sd b.1 b.2) : cells b ≠ [] := fun e => by
  have := (mem_cells h).mpr ⟨h.low, low_in h⟩
  rw [e] at this; cases this
theorem cells_one : ∀ p : Pl, cells (p, p) = [p]
  | [] => rfl
  | x :: p => by
    have ih := cells_one p
    unfold cells at ih ⊢
    simp only [List.zip_cons_cons, pb] at ih ⊢
    rw [ih, rg_one]; rfl
theorem pls_len : ∀ sd : List Int, (pls sd).length = szs sd
  | [] => rfl
  | s :: sd => by
    have ih := pls_len sd
    unfold pls at ih ⊢
    rw [List.map_cons, pb, List.length_flatMap]
    simp only [List.length_map, ih, szs]
    rw [List.map_const', List.sum_replicate_nat, rg_len]
    congr 1; show (s - 1 + 1 - 0).toNat = s.toNat; congr 1; omega
theorem pb_lt : ∀ rs : List (Int × Int), (pb rs).Pairwise fun p q => lexLt p q = true
  | [] => by simp [pb]
  | r :: rs => by
    rw [pb, List.pairwise_flatMap]
    refine ⟨fun x _ => List.pairwise_map.mpr ((pb_lt rs).imp fun {p q} h => ?_), (rg_lt _ _).imp fun {x y} h p hp q hq => ?_⟩
    · show (if x = x then lexLt p q else _) = true
      rw [if_pos rfl]; exact h
    · obtain ⟨p', _, rfl⟩ := List.mem_map.mp hp
      obtain ⟨q', _, rfl⟩ := List.mem_map.mp hq
      show (if x = y then _ else decide (x < y)) = true
      rw [if_neg (by omega)]; exact decide_eq_true h
theorem pls_lt (sd : List Int) : (pls sd).Pairwise fun p q => lexLt p q = true := pb_lt _
theorem nodup_of_lt {α : Type} {key : α → List Int} {l : List α} (h : l.Pairwise fun x y => lexLt (key x) (key y) = true) : l.Nodup :=
  h.imp fun {a b} z e => by rw [e, lexLt_self] at z; cases z
theorem pls_nodup (sd : List Int) : (pls sd).Nodup := nodup_of_lt (key := id) (pls_lt sd)

/-! ### the number of a place -/
def nmF (acc : Int) : List Int → Pl → Int
  | s :: sd, x :: p => nmF (acc * s + x) sd p
  | _, _ => acc
theorem flatMap_get {α β : Type} {f : α → List β} {n : Nat} : ∀ {l : List α} (_ : ∀ a ∈ l, (f a).length = n) {i j : Nat} {a : α}, l[i]? = some a → j < n → (l.flatMap f)[i * n + j]? = (f a)[j]?
  | [], _, i, j, a, h, _ => by simp at h
  | b :: l, hl, 0, j, a, h, hj => by
    cases h
    rw [List.flatMap_cons, List.getElem?_append_left (by rw [hl _ List.mem_cons_self]; omega)]
    congr 1; omega
  | b :: l, hl, i + 1, j, a, h, hj => by
    rw [List.getElem?_cons_succ] at h
    have e : (i + 1) * n + j = n + (i * n + j) := by rw [Nat.add_mul]; omega
    rw [List.flatMap_cons, List.getElem?_append_right (by rw [hl _ List.mem_cons_self]; omega), hl _ List.mem_cons_self, e, Nat.add_sub_cancel_left]
    exact flatMap_get (fun a h => hl a (List.mem_cons_of_mem _ h)) h hj
theorem nm_at : ∀ {sd : List Int} {p : Pl} (acc : Int), OkP sd p → ∃ j : Nat, j < szs sd ∧ nmF acc sd p = acc * szs sd + j ∧ (pls sd)[j]? = some p
  | [], [], acc, _ => ⟨0, by decide, by simp [nmF, szs], rfl⟩
  | [], _ :: _, _, h => h.elim
  | _ :: _, [], _, h => h.elim
  | s :: sd, x :: p, acc, h => by
    obtain ⟨j, hj, e, g⟩ := nm_at (acc * s + x) h.2
    have h1 := h.1
    have hx : x.toNat < s.toNat := by omega
    refine ⟨x.toNat * szs sd + j, ?_, ?_, ?_⟩
    · show _ < s.toNat * szs sd
      have : (x.toNat + 1) * szs sd ≤ s.toNat * szs sd := Nat.mul_le_mul_right _ hx
      rw [Nat.add_mul] at this; omega
    · show nmF (acc * s + x) sd p = _
      rw [e]
      show (acc * s + x) * (szs sd : Int) + j = acc * ((s.toNat * szs sd : Nat) : Int) + ((x.toNat * szs sd + j : Nat) : Int)
      push_cast
      rw [show ((s.toNat : Nat) : Int) = s by omega, show ((x.toNat : Nat) : Int) = x by omega, Int.add_mul, Int.mul_assoc]
      omega
    · have hl := pls_len sd
      unfold pls at g hl ⊢
      rw [List.map_cons, pb]
      rw [flatMap_get (n := szs sd) (fun a _ => by rw [List.length_map]; exact hl) (a := x) (by rw [rg_get (by simp; omega)]; congr 1; omega) hj, List.getElem?_map, g]
      rfl
theorem nm_get {sd : List Int} {p : Pl} (h : OkP sd p) : ∃ j : Nat, nmF 0 sd p = (j : Int) ∧ j < szs sd ∧ (pls sd)[j]? = some p := by
  obtain ⟨j, h1, h2, h3⟩ := nm_at 0 h
  exact ⟨j, by rw [h2]; simp, h1, h3⟩
end Bx

set_option Elab.async false
set_option linter.all false
set_option maxRecDepth 100000
set_option maxHeartbeats 1000000
/-! Plain mathematics: the tree of stretches, half boxes, covers. -/
namespace Bx
open PySem PySem.Spec PyProof.Rows L2

/-! ### the tree of stretches -/
def tree (lo hi : Int) : List (Int × Int) :=
  if h : lo < hi then (lo, hi) :: (tree lo ((lo + hi) / 2) ++ tree ((lo + hi) / 2 + 1) hi) else [(lo, hi)]
termination_by (hi - lo).toNat
decreasing_by all_goals omega
theorem tree_lt {lo hi : Int} (h : lo < hi) : tree lo hi = (lo, hi) :: (tree lo ((lo + hi) / 2) ++ tree ((lo + hi) / 2 + 1) hi) := by rw [tree, dif_pos h]
theorem tree_ge {lo hi : Int} (h : ¬ lo < hi) : tree lo hi = [(lo, hi)] := by rw [tree, dif_neg h]
theorem tree_top (lo hi : Int) : (lo, hi) ∈ tree lo hi := by
  by_cases h : lo < hi
  · rw [tree_lt h]; exact List.mem_cons_self
  · rw [tree_ge h]; exact List.mem_cons_self
theorem tree_in : ∀ (n : Nat) (lo hi : Int), (hi - lo).toNat = n → lo ≤ hi → ∀ q ∈ tree lo hi, lo ≤ q.1 ∧ q.1 ≤ q.2 ∧ q.2 ≤ hi := by
  intro n
  induction n using Nat.strongRecOn with
  | ind n ih =>
    intro lo hi hn hle q hq
    by_cases h : lo < hi
    · rw [tree_lt h, List.mem_cons, List.mem_append] at hq
      rcases hq with rfl | hq | hq
      · exact ⟨Int.le_refl _, hle, Int.le_refl _⟩
      · have := ih _ (by omega) lo ((lo + hi) / 2) rfl (by omega) q hq; omega
      · have := ih _ (by omega) ((lo + hi) / 2 + 1) hi rfl (by omega) q hq; omega
    · rw [tree_ge h, List.mem_singleton] at hq
      subst hq; exact ⟨Int.le_refl _, hle, Int.le_refl _⟩
theorem tree_sub : ∀ (n : Nat) (lo hi : Int), (hi - lo).toNat = n → ∀ q ∈ tree lo hi, ∀ r ∈ tree q.1 q.2, r ∈ tree lo hi := by
  intro n
  induction n using Nat.strongRecOn with
  | ind n ih =>
    intro lo hi hn q hq r hr
    by_cases h : lo < hi
    · have hq' := hq
      rw [tree_lt h, List.mem_cons, List.mem_append] at hq
      rcases hq with rfl | hq | hq
      · exact hr
      · rw [tree_lt h, List.mem_cons, List.mem_append]
        exact .inr (.inl (ih _ (by omega) lo _ rfl q hq r hr))
      · rw [tree_lt h, List.mem_cons, List.mem_append]
        exact .inr (.inr (ih _ (by omega) _ hi rfl q hq r hr))
    · rw [tree_ge h, List.mem_singleton] at hq
      subst hq; exact hr
theorem tree_halves {lo hi a b : Int} (h : (a, b) ∈ tree lo hi) (hab : a < b) : (a, (a + b) / 2) ∈ tree lo hi ∧ ((a + b) / 2 + 1, b) ∈ tree lo hi := by
  have s := tree_sub _ lo hi rfl _ h
  constructor
  · refine s _ ?_
    show _ ∈ tree a b
    rw [tree_lt hab]; exact List.mem_cons_of_mem _ (List.mem_append_left _ (tree_top _ _))
  · refine s _ ?_
    show _ ∈ tree a b
    rw [tree_lt hab]; exact List.mem_cons_of_mem _ (List.mem_append_right _ (tree_top _ _))
theorem tree_one : ∀ (n : Nat) (lo hi : Int), (hi - lo).toNat = n → ∀ x, lo ≤ x → x ≤ hi → (x, x) ∈ tree lo hi := by
  intro n
  induction n using Nat.strongRecOn with
  | ind n ih =>
    intro lo hi hn x h1 h2
    by_cases h : lo < hi
    · rw [tree_lt h, List.mem_cons, List.mem_append]
      by_cases hx : x ≤ (lo + hi) / 2
      · exact .inr (.inl (ih _ (by omega) lo _ rfl x h1 hx))
      · exact .inr (.inr (ih _ (by omega) _ hi rfl x (by omega) h2))
    · rw [tree_ge h]
      have : lo = x ∧ hi = x := by omega
      rw [this.1, this.2]; exact List.mem_cons_self
theorem tree_len : ∀ (n : Nat) (lo hi : Int), (hi - lo).toNat = n → lo ≤ hi → (tree lo hi).length = 2 * n + 1 := by
  intro n
  induction n using Nat.strongRecOn with
  | ind n ih =>
    intro lo hi hn hle
    by_cases h : lo < hi
    · rw [tree_lt h, List.length_cons, List.length_append, ih ((lo + hi) / 2 - lo).toNat (by omega) _ _ rfl (by omega), ih (hi - ((lo + hi) / 2 + 1)).toNat (by omega) _ _ rfl (by omega)]
      omega
    · rw [tree_ge h, List.length_singleton]; omega
theorem tree_nodup : ∀ (n : Nat) (lo hi : Int), (hi - lo).toNat = n → lo ≤ hi → (tree lo hi).Nodup := by
  intro n
  induction n using Nat.strongRecOn with
  | ind n ih =>
    intro lo hi hn hle
    by_cases h : lo < hi
    · rw [tree_lt h, List.nodup_cons, List.nodup_append]
      refine ⟨fun hm => ?_, ih _ (by omega) _ _ rfl (by omega), ih _ (by omega) _ _ rfl (by omega), fun a ha b hb e => ?_⟩
      · rcases List.mem_append.mp hm with hm | hm
        · have := tree_in _ _ _ rfl (by omega) _ hm; simp only at this; omega
        · have := tree_in _ _ _ rfl (by omega) _ hm; simp only at this; omega
      · subst e
        have h1 := tree_in _ _ _ rfl (by omega) _ ha
        have h2 := tree_in _ _ _ rfl (by omega) _ hb
        omega
    · rw [tree_ge h]; simp
theorem tree_none {lo hi x : Int} (hle : lo ≤ hi) (hx : x < lo ∨ hi < x) : (tree lo hi).filter (fun q => decide (q.1 ≤ x) && decide (x ≤ q.2)) = [] := by
  rw [List.filter_eq_nil_iff]
  intro q hq z
  have := tree_in _ _ _ rfl hle q hq
  simp at z; omega
theorem tree_count : ∀ (r : Nat) (lo hi x : Int), lo ≤ hi → hi - lo + 1 ≤ 2 ^ r → ((tree lo hi).filter fun q => decide (q.1 ≤ x) && decide (x ≤ q.2)).length ≤ r + 1 := by
  intro r
  induction r with
  | zero =>
    intro lo hi x hle h
    rw [tree_ge (by simp at h; omega)]
    exact List.length_filter_le _ _
  | succ r ih =>
    intro lo hi x hle h
    have e : (2 : Int) ^ (r + 1) = 2 * 2 ^ r := by rw [Int.pow_succ]; omega
    rw [e] at h
    by_cases hlt : lo < hi
    · rw [tree_lt hlt, List.filter_cons]
      have hm : ((tree lo ((lo + hi) / 2) ++ tree ((lo + hi) / 2 + 1) hi).filter fun q => decide (q.1 ≤ x) && decide (x ≤ q.2)).length ≤ r + 1 := by
        rw [List.filter_append]
        by_cases hx : x ≤ (lo + hi) / 2
        · rw [tree_none (lo := (lo + hi) / 2 + 1) (by omega) (.inl (by omega)), List.append_nil]
          exact ih _ _ _ (by omega) (by omega)
        · rw [tree_none (hi := (lo + hi) / 2) (by omega) (.inr (by omega)), List.nil_append]
          exact ih _ _ _ (by omega) (by omega)
      split
      · rw [List.length_cons]; omega
      · omega
    · rw [tree_ge hlt]
      exact Nat.le_trans (List.length_filter_le _ _) (by simp)

def pkey (q : Int × Int) : List Int := [q.1, q.2]
theorem pkey_inj (a b : Int × Int) (h : pkey a = pkey b) : a = b := by
  unfold pkey at h
  simp only [List.cons.injEq, and_true] at h
  exact Prod.ext h.1 h.2
def stRow (s : Int) : List (Int × Int) := srt pkey (tree 0 (s - 1))
theorem mem_stRow {s : Int} {q : Int × Int} : q ∈ stRow s ↔ q ∈ tree 0 (s - 1) := (srt_perm _ _).mem_iff

/-! ### boxes of stretches -/
def prodR : List (List (Int × Int)) → List Box
  | [] => [([], [])]
  | row :: rows => row.flatMap fun r => (prodR rows).map fun b => (r.1 :: b.1, r.2 :: b.2)
def prodStep (found : List Box) (row : List (Int × Int)) : List Box := found.flatMap fun b => row.map fun r => (b.1 ++ [r.1], b.2 ++ [r.2])
theorem prod_fold : ∀ (rows : List (List (Int × Int))) (found : List Box), rows.foldl prodStep found = found.flatMap fun b => (prodR rows).map fun c => (b.1 ++ c.1, b.2 ++ c.2)
  | [], found => by simp [prodR]
  | row :: rows, found => by
    rw [List.foldl_cons, prod_fold rows]
    simp only [prodR, prodStep, List.flatMap_assoc, List.flatMap_map, List.map_flatMap, List.map_map]
    congr 1; funext b; congr 1; funext r; congr 1; funext c; simp
theorem prod_fold0 (rows : List (List (Int × Int))) : rows.foldl prodStep [([], [])] = prodR rows := by
  rw [prod_fold]; simp
theorem prodR_len : ∀ {rows : List (List (Int × Int))} {b : Box}, b ∈ prodR rows → b.1.length = rows.length ∧ b.2.length = rows.length
  | [], b, h => by rw [List.mem_singleton.mp h]; exact ⟨rfl, rfl⟩
  | row :: rows, b, h => by
    obtain ⟨r, _, h⟩ := List.mem_flatMap.mp h
    obtain ⟨c, hc, rfl⟩ := List.mem_map.mp h
    have := prodR_len hc
    simp [this]
/-- each pair of sides is one of the row's stretches -/
def InR : List (List (Int × Int)) → Pl → Pl → Prop
  | [], [], [] => True
  | row :: rows, a :: lo, b :: hi => (a, b) ∈ row ∧ InR rows lo hi
  | _, _, _ => False
theorem mem_prodR : ∀ {rows : List (List (Int × Int))} {b : Box}, b ∈ prodR rows ↔ InR rows b.1 b.2
  | [], ([], []) => by simp [prodR, InR]
  | [], ([], _ :: _) => by simp [prodR, InR]
  | [], (_ :: _, _) => by simp [prodR, InR]
  | row :: rows, ([], _) => by simp [prodR, InR]
  | row :: rows, (_ :: _, []) => by simp [prodR, InR]
  | row :: rows, (a :: lo, b :: hi) => by
    have ih := @mem_prodR rows (lo, hi)
    simp only [prodR, List.mem_flatMap, List.mem_map, InR] at ih ⊢
    constructor
    · rintro ⟨r, hr, c, hc, e⟩
      simp only [Prod.mk.injEq, List.cons.injEq] at e
      obtain ⟨⟨rfl, rfl⟩, rfl, rfl⟩ := e
      exact ⟨hr, ih.mp hc⟩
    · rintro ⟨h1, h2⟩
      exact ⟨(a, b), h1, (lo, hi), ih.mpr h2, rfl⟩
theorem prodR_nodup : ∀ {rows : List (List (Int × Int))}, (∀ row ∈ rows, row.Nodup) → (prodR rows).Nodup
  | [], _ => by simp [prodR]
  | row :: rows, h => by
    unfold prodR List.Nodup
    rw [List.pairwise_flatMap]
    refine ⟨fun r _ => List.pairwise_map.mpr ((prodR_nodup fun r hr => h r (List.mem_cons_of_mem _ hr)).imp fun {a b} n e => n ?_), (h row List.mem_cons_self).imp fun {r q} n a ha b hb e => n ?_⟩
    · simp only [Prod.mk.injEq, List.cons.injEq, true_and] at e
      exact Prod.ext e.1 e.2
    · obtain ⟨c, _, rfl⟩ := List.mem_map.mp ha
      obtain ⟨d, _, rfl⟩ := List.mem_map.mp hb
      simp only [Prod.mk.injEq, List.cons.injEq] at e
      exact Prod.ext e.1.1 e.2.1
/-- how many boxes -/
def rowsN : List (List (Int × Int)) → Nat
  | [] => 1
  | row :: rows => row.length * rowsN rows
theorem prodR_count : ∀ rows : List (List (Int × Int)), (prodR rows).length = rowsN rows
  | [] => rfl
  | row :: rows => by
    rw [prodR, List.length_flatMap]
    simp only [List.length_map, prodR_count rows, rowsN]
    rw [List.map_const', List.sum_replicate_nat]
theorem bkey_inj' {a b : Box} (ha : a.1.length = b.1.length) (h : bkey a = bkey b) : a = b := by
  have := List.append_inj h ha
  exact Prod.ext this.1 this.2
/-- the boxes of one length, sorted: unique -/
theorem boxes_uniq {n : Nat} {l m : List Box} (hn : ∀ b ∈ l, b.1.length = n) (hp : l.Perm m) (hl : l.Pairwise fun x y => lexLt (bkey y) (bkey x) = false) (hm : m.Pairwise fun x y => lexLt (bkey y) (bkey x) = false) : l = m :=
  hp.eq_of_pairwise (fun a b ha hb h1 h2 => bkey_inj' (by rw [hn a ha, hn b (hp.mem_iff.mpr hb)]) (lexLt_tri _ _ h2 h1)) hl hm
def bsort (l : List Box) : List Box := srt bkey l
theorem bsort_of {n : Nat} {l m : List Box} (hn : ∀ b ∈ l, b.1.length = n) (hp : m.Perm l) (hm : m.Pairwise fun x y => lexLt (bkey y) (bkey x) = false) : m = bsort l :=
  boxes_uniq (n := n) (fun b hb => hn b (hp.mem_iff.mp hb)) (hp.trans (srt_perm bkey l).symm) hm (srt_sorted bkey l)
def halfB (sd : List Int) : List Box := bsort (prodR (sd.map stRow))
def InH : List Int → Pl → Pl → Prop
  | [], [], [] => True
  | s :: sd, a :: lo, b :: hi => (a, b) ∈ tree 0 (s - 1) ∧ InH sd lo hi
  | _, _, _ => False
theorem inR_inH : ∀ {sd : List Int} {lo hi : Pl}, InR (sd.map stRow) lo hi ↔ InH sd lo hi
  | [], [], [] => Iff.rfl
  | [], [], _ :: _ => Iff.rfl
  | [], _ :: _, [] => Iff.rfl
  | [], _ :: _, _ :: _ => Iff.rfl
  | _ :: _, [], [] => Iff.rfl
  | _ :: _, [], _ :: _ => Iff.rfl
  | _ :: _, _ :: _, [] => Iff.rfl
  | s :: sd, a :: lo, b :: hi => by
    show (a, b) ∈ stRow s ∧ InR (sd.map stRow) lo hi ↔ _
    rw [mem_stRow, inR_inH]; rfl
theorem mem_halfB {sd : List Int} {b : Box} : b ∈ halfB sd ↔ InH sd b.1 b.2 := by
  unfold halfB bsort
  rw [(srt_perm _ _).mem_iff, mem_prodR, inR_inH]
def Pos1 (sd : List Int) : Prop := ∀ s ∈ sd, (1 : Int) ≤ s
theorem halfB_nodup {sd : List Int} (h : Pos1 sd) : (halfB sd).Nodup := by
  refine (srt_perm _ _).nodup_iff.mpr (prodR_nodup fun row hr => ?_)
  obtain ⟨s, hs, rfl⟩ := List.mem_map.mp hr
  exact (srt_perm _ _).nodup_iff.mpr (tree_nodup _ _ _ rfl (by have := h s hs; omega))
theorem InH.ok : ∀ {sd : List Int} {lo hi : Pl}, Pos1 sd → InH sd lo hi → OkB sd lo hi
  | [], [], [], _, _ => trivial
  | [], [], _ :: _, _, h => h.elim
  | [], _ :: _, [], _, h => h.elim
  | [], _ :: _, _ :: _, _, h => h.elim
  | _ :: _, [], [], _, h => h.elim
  | _ :: _, [], _ :: _, _, h => h.elim
  | _ :: _, _ :: _, [], _, h => h.elim
  | s :: sd, a :: lo, b :: hi, p, h => by
    have h1 := p s List.mem_cons_self
    have := tree_in _ _ _ rfl (by omega) _ h.1
    simp only at this
    exact ⟨by omega, InH.ok (fun s hs => p s (List.mem_cons_of_mem _ hs)) h.2⟩
theorem InH.one : ∀ {sd : List Int} {p : Pl}, OkP sd p → InH sd p p
  | [], [], _ => trivial
  | [], _ :: _, h => h.elim
  | _ :: _, [], h => h.elim
  | s :: sd, x :: p, h => ⟨tree_one _ _ _ rfl x (by have := h.1; omega) (by have := h.1; omega), InH.one h.2⟩

/-! ### the parts of a box -/
def mid (a b : Int) : Int := (a + b) / 2
theorem InH.parts : ∀ {sd : List Int} {lo hi : Pl} {way : Nat} {a b : Int}, InH sd lo hi → lo[way]? = some a → hi[way]? = some b → a < b →
    InH sd lo (hi.set way (mid a b)) ∧ InH sd (lo.set way (mid a b + 1)) hi
  | [], [], [], way, a, b, _, e, _, _ => by simp at e
  | [], [], _ :: _, _, _, _, h, _, _, _ => h.elim
  | [], _ :: _, [], _, _, _, h, _, _, _ => h.elim
  | [], _ :: _, _ :: _, _, _, _, h, _, _, _ => h.elim
  | _ :: _, [], [], _, _, _, h, _, _, _ => h.elim
  | _ :: _, [], _ :: _, _, _, _, h, _, _, _ => h.elim
  | _ :: _, _ :: _, [], _, _, _, h, _, _, _ => h.elim
  | s :: sd, x :: lo, y :: hi, 0, a, b, h, e1, e2, hab => by
    cases e1; cases e2
    have t := tree_halves h.1 hab
    exact ⟨⟨t.1, h.2⟩, ⟨t.2, h.2⟩⟩
  | s :: sd, x :: lo, y :: hi, way + 1, a, b, h, e1, e2, hab => by
    have t := InH.parts h.2 (way := way) e1 e2 hab
    exact ⟨⟨h.1, t.1⟩, ⟨h.1, t.2⟩⟩
theorem flatMap_app_perm {α β : Type} (f g : α → List β) : ∀ l : List α, (l.flatMap f ++ l.flatMap g).Perm (l.flatMap fun x => f x ++ g x)
  | [] => .refl _
  | x :: l => by
    simp only [List.flatMap_cons, List.append_assoc]
    refine List.Perm.append_left _ ?_
    refine (List.perm_append_comm_assoc _ _ _).trans (List.Perm.append_left _ (flatMap_app_perm f g l))
theorem flatMap_perm {α β : Type} {f g : α → List β} : ∀ {l : List α}, (∀ x ∈ l, (f x).Perm (g x)) → (l.flatMap f).Perm (l.flatMap g)
  | [], _ => .refl _
  | x :: l, h => by
    rw [List.flatMap_cons, List.flatMap_cons]
    exact (h x List.mem_cons_self).append (flatMap_perm fun y hy => h y (List.mem_cons_of_mem _ hy))
theorem flatMap_swap {α β γ : Type} (g : α → β → List γ) (m : List β) : ∀ l : List α, (l.flatMap fun a => m.flatMap fun b => g a b).Perm (m.flatMap fun b => l.flatMap fun a => g a b)
  | [] => by simp
  | a :: l => by
    rw [List.flatMap_cons]
    refine (List.Perm.append_left _ (flatMap_swap g m l)).trans ?_
    refine (flatMap_app_perm _ _ m).trans (.of_eq ?_)
    congr 1
theorem cells_parts : ∀ {lo hi : Pl} {way : Nat} {a b m : Int}, lo.length = hi.length → lo[way]? = some a → hi[way]? = some b → a ≤ m → m < b →
    (pb (lo.zip hi)).Perm (pb (lo.zip (hi.set way m)) ++ pb ((lo.set way (m + 1)).zip hi))
  | [], _, _, _, _, _, _, e, _, _, _ => by simp at e
  | _ :: _, [], _, _, _, _, h, _, _, _, _ => by simp at h
  | x :: lo, y :: hi, 0, a, b, m, h, e1, e2, h1, h2 => by
    cases e1; cases e2
    simp only [List.set_cons_zero, List.zip_cons_cons, pb]
    rw [rg_split (a := x) (m := m) (b := y) (by omega) (by omega), List.flatMap_append]
  | x :: lo, y :: hi, way + 1, a, b, m, h, e1, e2, h1, h2 => by
    have ih := cells_parts (lo := lo) (hi := hi) (way := way) (by simpa using h) e1 e2 h1 h2
    simp only [List.set_cons_succ, List.zip_cons_cons, pb]
    refine (flatMap_perm fun z _ => ?_).trans (flatMap_app_perm _ _ _).symm
    rw [← List.map_append]
    exact ih.map _

/-! ### covers -/
def cov (lo hi h t : Int) : List (Int × Int) :=
  if lo ≤ h ∧ t ≤ hi then [(h, t)] else if h ≤ hi ∧ lo ≤ t then (if hlt : h < t then cov lo hi h ((h + t) / 2) ++ cov lo hi ((h + t) / 2 + 1) t else []) else []
termination_by (t - h).toNat
decreasing_by all_goals omega
theorem cov_in {lo hi h t : Int} (c : lo ≤ h ∧ t ≤ hi) : cov lo hi h t = [(h, t)] := by rw [cov, if_pos c]
theorem cov_out {lo hi h t : Int} (c : ¬ (lo ≤ h ∧ t ≤ hi)) (c2 : ¬ (h ≤ hi ∧ lo ≤ t)) : cov lo hi h t = [] := by rw [cov, if_neg c, if_neg c2]
theorem cov_cut {lo hi h t : Int} (c : ¬ (lo ≤ h ∧ t ≤ hi)) (c2 : h ≤ hi ∧ lo ≤ t) (c3 : h < t) : cov lo hi h t = cov lo hi h ((h + t) / 2) ++ cov lo hi ((h + t) / 2 + 1) t := by rw [cov, if_neg c, if_pos c2, dif_pos c3]
theorem cov_tree {lo hi : Int} : ∀ (n : Nat) (h t : Int), (t - h).toNat = n → h ≤ t → ∀ q ∈ cov lo hi h t, q ∈ tree h t := by
  intro n
  induction n using Nat.strongRecOn with
  | ind n ih =>
    intro h t hn hle q hq
    by_cases c : lo ≤ h ∧ t ≤ hi
    · rw [cov_in c, List.mem_singleton] at hq
      subst hq; exact tree_top _ _
    · by_cases c2 : h ≤ hi ∧ lo ≤ t
      · have c3 : h < t := by omega
        rw [cov_cut c c2 c3, List.mem_append] at hq
        rw [tree_lt c3, List.mem_cons, List.mem_append]
        rcases hq with hq | hq
        · exact .inr (.inl (ih _ (by omega) _ _ rfl (by omega) q hq))
        · exact .inr (.inr (ih _ (by omega) _ _ rfl (by omega) q hq))
      · rw [cov_out c c2] at hq; cases hq
theorem cov_cells {lo hi : Int} : ∀ (n : Nat) (h t : Int), (t - h).toNat = n → h ≤ t → ((cov lo hi h t).flatMap fun q => rg q.1 q.2) = (rg h t).filter fun x => decide (lo ≤ x) && decide (x ≤ hi) := by
  intro n
  induction n using Nat.strongRecOn with
  | ind n ih =>
    intro h t hn hle
    by_cases c : lo ≤ h ∧ t ≤ hi
    · rw [cov_in c, List.filter_eq_self.mpr (fun x hx => by have := mem_rg.mp hx; simp; omega)]
      simp
    · by_cases c2 : h ≤ hi ∧ lo ≤ t
      · have c3 : h < t := by omega
        rw [cov_cut c c2 c3, List.flatMap_append, ih _ (by omega) _ _ rfl (by omega), ih _ (by omega) _ _ rfl (by omega), ← List.filter_append, ← rg_split (by omega) (by omega)]
      · rw [cov_out c c2]
        symm
        rw [List.flatMap_nil, List.filter_eq_nil_iff]
        intro x hx z
        have := mem_rg.mp hx
        simp at z; omega
theorem cov_all {lo hi s : Int} (h1 : 0 ≤ lo) (h2 : lo ≤ hi) (h3 : hi < s) : ((cov lo hi 0 (s - 1)).flatMap fun q => rg q.1 q.2) = rg lo hi := by
  rw [cov_cells _ _ _ rfl (by omega), rg_filter (by omega) (by omega)]
theorem cov_len : ∀ {lo hi : Int} (n : Nat) (h t : Int), (t - h).toNat = n → h ≤ t → (cov lo hi h t).length ≤ 2 * n + 1 := by
  intro lo hi n
  induction n using Nat.strongRecOn with
  | ind n ih =>
    intro h t hn hle
    by_cases c : lo ≤ h ∧ t ≤ hi
    · rw [cov_in c]; simp
    · by_cases c2 : h ≤ hi ∧ lo ≤ t
      · have c3 : h < t := by omega
        have h1 := ih ((h + t) / 2 - h).toNat (by omega) h ((h + t) / 2) rfl (by omega)
        have h2 := ih (t - ((h + t) / 2 + 1)).toNat (by omega) ((h + t) / 2 + 1) t rfl (by omega)
        rw [cov_cut c c2 c3, List.length_append]; omega
      · rw [cov_out c c2]; simp
/-- the rows of a box's cover -/
def covs : List Int → Pl → Pl → List (List (Int × Int))
  | s :: sd, a :: lo, b :: hi => cov a b 0 (s - 1) :: covs sd lo hi
  | _, _, _ => []
def bcov (sd : List Int) (b : Box) : List Box := bsort (prodR (covs sd b.1 b.2))
theorem covs_cells : ∀ {sd : List Int} {lo hi : Pl}, OkB sd lo hi → ((prodR (covs sd lo hi)).flatMap cells).Perm (pb (lo.zip hi))
  | [], [], [], _ => by simp [covs, prodR, cells, pb]
  | [], [], _ :: _, h => h.elim
  | [], _ :: _, _, h => h.elim
  | _ :: _, [], _, h => h.elim
  | _ :: _, _ :: _, [], h => h.elim
  | s :: sd, a :: lo, b :: hi, h => by
    have ih := covs_cells h.2
    have h1 := h.1
    simp only [covs, prodR, List.zip_cons_cons, pb, List.flatMap_assoc, List.flatMap_map]
    rw [← cov_all (s := s) h1.1 h1.2.1 h1.2.2, List.flatMap_assoc]
    refine flatMap_perm fun r _ => ?_
    show (List.flatMap (fun c : Box => cells (r.1 :: c.1, r.2 :: c.2)) (prodR (covs sd lo hi))).Perm _
    simp only [cells, List.zip_cons_cons, pb]
    refine (flatMap_swap (fun (c : Box) (x : Int) => (pb (c.1.zip c.2)).map (x :: ·)) (rg r.1 r.2) (prodR (covs sd lo hi))).trans (flatMap_perm fun x _ => ?_)
    rw [← List.map_flatMap]
    exact ih.map _
theorem covs_inH : ∀ {sd : List Int} {lo hi : Pl}, Pos1 sd → OkB sd lo hi → ∀ {p q : Pl}, InR (covs sd lo hi) p q → InH sd p q
  | [], [], [], _, _, p, q, h => by
    cases p <;> cases q <;> first | exact trivial | exact h.elim
  | [], [], _ :: _, _, h, _, _, _ => h.elim
  | [], _ :: _, _, _, h, _, _, _ => h.elim
  | _ :: _, [], _, _, h, _, _, _ => h.elim
  | _ :: _, _ :: _, [], _, h, _, _, _ => h.elim
  | s :: sd, a :: lo, b :: hi, ps, h, p, q, k => by
    match p, q, k with
    | x :: p, y :: q, k => exact ⟨cov_tree _ _ _ rfl (by have := ps s List.mem_cons_self; omega) _ k.1, covs_inH (fun s hs => ps s (List.mem_cons_of_mem _ hs)) h.2 k.2⟩
theorem bcov_half {sd : List Int} {b : Box} (ps : Pos1 sd) (h : OkB sd b.1 b.2) {c : Box} (hc : c ∈ bcov sd b) : c ∈ halfB sd :=
  mem_halfB.mpr (covs_inH ps h (mem_prodR.mp ((srt_perm _ _).mem_iff.mp hc)))
theorem bcov_cells {sd : List Int} {b : Box} (h : OkB sd b.1 b.2) : ((bcov sd b).flatMap cells).Perm (cells b) :=
  ((srt_perm bkey _).flatMap_right _).trans (covs_cells h)

/-! ### how many half boxes have a place -/
theorem prodR_has : ∀ {sd : List Int} {rs : List Nat} {p : Pl}, Pos1 sd → OkP sd p → rs.length = sd.length → (∀ (i : Nat) (s : Int) (r : Nat), sd[i]? = some s → rs[i]? = some r → s ≤ 2 ^ r) →
    ((prodR (sd.map stRow)).filter fun b => inB b.1 b.2 p).length ≤ (rs.map (· + 1)).foldr (· * ·) 1
  | [], [], [], _, _, _, _ => by simp [prodR, inB]
  | [], [], _ :: _, _, h, _, _ => h.elim
  | [], _ :: _, _, _, _, h, _ => by simp at h
  | _ :: _, [], _, _, _, h, _ => by simp at h
  | _ :: _, _ :: _, [], _, h, _, _ => h.elim
  | s :: sd, r :: rs, x :: p, ps, h, hl, hb => by
    have ih := prodR_has (fun s hs => ps s (List.mem_cons_of_mem _ hs)) h.2 (by simpa using hl) fun i s r h1 h2 => hb (i + 1) s r h1 h2
    rw [List.map_cons, prodR, List.filter_flatMap]
    have e : ∀ q : Int × Int, List.filter (fun b : Box => inB b.1 b.2 (x :: p)) ((prodR (sd.map stRow)).map fun b => (q.1 :: b.1, q.2 :: b.2)) =
        if (decide (q.1 ≤ x) && decide (x ≤ q.2)) = true then ((prodR (sd.map stRow)).filter fun b => inB b.1 b.2 p).map fun b => (q.1 :: b.1, q.2 :: b.2) else [] := by
      intro q
      rw [List.filter_map]
      cases hx : (decide (q.1 ≤ x) && decide (x ≤ q.2)) with
      | true =>
        rw [if_pos rfl]
        congr 1
        apply List.filter_congr
        intro b _
        simp only [Function.comp, inB, hx, Bool.true_and]
      | false =>
        rw [if_neg Bool.false_ne_true, List.map_eq_nil_iff, List.filter_eq_nil_iff]
        intro b _
        simp only [Function.comp, inB, hx, Bool.false_and]
        exact Bool.false_ne_true
    simp only [e]
    rw [flatMap_if (fun q : Int × Int => decide (q.1 ≤ x) && decide (x ≤ q.2)), List.length_flatMap]
    simp only [List.length_map]
    rw [List.map_const', List.sum_replicate_nat, List.map_cons, List.foldr_cons]
    refine Nat.mul_le_mul ?_ ih
    rw [show stRow s = srt pkey (tree 0 (s - 1)) from rfl, ((srt_perm pkey (tree 0 (s - 1))).filter _).length_eq]
    refine tree_count r 0 (s - 1) x (by have := ps s List.mem_cons_self; omega) ?_
    have := hb 0 s r rfl rfl
    omega
theorem halfB_has {sd : List Int} {rs : List Nat} {p : Pl} (ps : Pos1 sd) (h : OkP sd p) (hl : rs.length = sd.length) (hb : ∀ (i : Nat) (s : Int) (r : Nat), sd[i]? = some s → rs[i]? = some r → s ≤ 2 ^ r) :
    ((halfB sd).filter fun b => inB b.1 b.2 p).length ≤ (rs.map (· + 1)).foldr (· * ·) 1 := by
  unfold halfB bsort
  rw [((srt_perm bkey _).filter _).length_eq]
  exact prodR_has ps h hl hb
end Bx

set_option Elab.async false
set_option linter.all false
set_option maxRecDepth 100000
set_option maxHeartbeats 1000000
/-! Plain mathematics: what a box holds; the change of a cell. -/
namespace Bx
open PySem PySem.Spec PyProof.Rows L2
abbrev Tri := Int × Int × Int

/-! ### sum, least, greatest -/
def mnl : List Int → Int
  | [] => 0
  | x :: xs => xs.foldl min x
def mxl : List Int → Int
  | [] => 0
  | x :: xs => xs.foldl max x
theorem foldl_min : ∀ (xs : List Int) (x : Int), (xs.foldl min x ∈ x :: xs) ∧ ∀ y ∈ x :: xs, xs.foldl min x ≤ y
  | [], x => by simp
  | z :: xs, x => by
    obtain ⟨h1, h2⟩ := foldl_min xs (min x z)
    rw [List.foldl_cons]
    refine ⟨?_, fun y hy => ?_⟩
    · rcases List.mem_cons.mp h1 with e | e
      · rw [e]
        rcases Int.min_def x z with e2
        split at e2 <;> rw [e2] <;> simp
      · exact List.mem_cons_of_mem _ (List.mem_cons_of_mem _ e)
    · have h3 := h2 (min x z) List.mem_cons_self
      rcases List.mem_cons.mp hy with e | e
      · subst e; omega
      · rcases List.mem_cons.mp e with e | e
        · subst e; omega
        · exact h2 y (List.mem_cons_of_mem _ e)
theorem foldl_max : ∀ (xs : List Int) (x : Int), (xs.foldl max x ∈ x :: xs) ∧ ∀ y ∈ x :: xs, y ≤ xs.foldl max x
  | [], x => by simp
  | z :: xs, x => by
    obtain ⟨h1, h2⟩ := foldl_max xs (max x z)
    rw [List.foldl_cons]
    refine ⟨?_, fun y hy => ?_⟩
    · rcases List.mem_cons.mp h1 with e | e
      · rw [e]
        rcases Int.max_def x z with e2
        split at e2 <;> rw [e2] <;> simp
      · exact List.mem_cons_of_mem _ (List.mem_cons_of_mem _ e)
    · have h3 := h2 (max x z) List.mem_cons_self
      rcases List.mem_cons.mp hy with e | e
      · subst e; omega
      · rcases List.mem_cons.mp e with e | e
        · subst e; omega
        · exact h2 y (List.mem_cons_of_mem _ e)
theorem mnl_spec {l : List Int} (h : l ≠ []) : mnl l ∈ l ∧ ∀ y ∈ l, mnl l ≤ y := by
  cases l with
  | nil => exact absurd rfl h
  | cons x xs => exact foldl_min xs x
theorem mxl_spec {l : List Int} (h : l ≠ []) : mxl l ∈ l ∧ ∀ y ∈ l, y ≤ mxl l := by
  cases l with
  | nil => exact absurd rfl h
  | cons x xs => exact foldl_max xs x
theorem mnl_of {l : List Int} {m : Int} (h1 : m ∈ l) (h2 : ∀ y ∈ l, m ≤ y) : m = mnl l := by
  have h := mnl_spec (List.ne_nil_of_mem h1)
  exact Int.le_antisymm (h2 _ h.1) (h.2 _ h1)
theorem mxl_of {l : List Int} {m : Int} (h1 : m ∈ l) (h2 : ∀ y ∈ l, y ≤ m) : m = mxl l := by
  have h := mxl_spec (List.ne_nil_of_mem h1)
  exact Int.le_antisymm (h.2 _ h1) (h2 _ h.1)
def tri (l : List Int) : Tri := (l.sum, mnl l, mxl l)
def joinT (a b : Tri) : Tri := (a.1 + b.1, (if b.2.1 < a.2.1 then b.2.1 else a.2.1), (if b.2.2 > a.2.2 then b.2.2 else a.2.2))
theorem sum_perm {l m : List Int} (h : l.Perm m) : l.sum = m.sum := by
  induction h with
  | nil => rfl
  | cons x _ ih => simp [ih]
  | swap x y l => simp only [List.sum_cons]; omega
  | trans _ _ h1 h2 => exact h1.trans h2
theorem tri_perm {l m : List Int} (h : l.Perm m) : tri l = tri m := by
  by_cases hl : l = []
  · subst hl; rw [List.Perm.eq_nil h.symm]
  · have hm : m ≠ [] := fun e => hl (by subst e; exact h.eq_nil)
    have a := mnl_spec hl
    have b := mxl_spec hl
    unfold tri
    rw [sum_perm h, mnl_of (h.mem_iff.mp a.1) (fun y hy => a.2 y (h.mem_iff.mpr hy)), mxl_of (h.mem_iff.mp b.1) (fun y hy => b.2 y (h.mem_iff.mpr hy))]
theorem tri_app {l m : List Int} (hl : l ≠ []) (hm : m ≠ []) : tri (l ++ m) = joinT (tri l) (tri m) := by
  have a := mnl_spec hl
  have b := mnl_spec hm
  have c := mxl_spec hl
  have d := mxl_spec hm
  unfold tri joinT
  simp only [Prod.mk.injEq]
  refine ⟨List.sum_append_int, (mnl_of ?_ fun y hy => ?_).symm, (mxl_of ?_ fun y hy => ?_).symm⟩
  · split
    · exact List.mem_append_right _ b.1
    · exact List.mem_append_left _ a.1
  · rcases List.mem_append.mp hy with e | e
    · have := a.2 y e; split <;> omega
    · have := b.2 y e; split <;> omega
  · split
    · exact List.mem_append_right _ d.1
    · exact List.mem_append_left _ c.1
  · rcases List.mem_append.mp hy with e | e
    · have := c.2 y e; split <;> omega
    · have := d.2 y e; split <;> omega
theorem tri_bound {l : List Int} (h : l ≠ []) {B : Int} (hb : ∀ x ∈ l, -B ≤ x ∧ x ≤ B) : -((l.length : Int) * B) ≤ (tri l).1 ∧ (tri l).1 ≤ (l.length : Int) * B ∧ (-B ≤ (tri l).2.1 ∧ (tri l).2.1 ≤ B) ∧ (-B ≤ (tri l).2.2 ∧ (tri l).2.2 ≤ B) := by
  have s : ∀ l : List Int, (∀ x ∈ l, -B ≤ x ∧ x ≤ B) → -((l.length : Int) * B) ≤ l.sum ∧ l.sum ≤ (l.length : Int) * B := by
    intro l
    induction l with
    | nil => intro _; simp
    | cons x l ih =>
      intro hb
      have h1 := ih fun y hy => hb y (List.mem_cons_of_mem _ hy)
      have h2 := hb x List.mem_cons_self
      rw [List.sum_cons, List.length_cons]
      push_cast
      rw [Int.add_mul]
      omega
  exact ⟨(s l hb).1, (s l hb).2, hb _ (mnl_spec h).1, hb _ (mxl_spec h).1⟩

/-! ### what a box holds, of the field f -/
def TB (f : Pl → Int) (b : Box) : Tri := tri ((cells b).map f)
theorem TB_one (f : Pl → Int) (p : Pl) : TB f (p, p) = (f p, f p, f p) := by
  unfold TB
  rw [cells_one]
  show tri [f p] = _
  unfold tri
  simp [mnl, mxl]
theorem TB_congr {f g : Pl → Int} {b : Box} (h : ∀ p ∈ cells b, f p = g p) : TB f b = TB g b := by
  unfold TB
  rw [List.map_congr_left h]
def p1 (b : Box) (way : Nat) (m : Int) : Box := (b.1, b.2.set way m)
def p2 (b : Box) (way : Nat) (m : Int) : Box := (b.1.set way (m + 1), b.2)
/-- the way in which a box is cut: the first in which it is longer than one -/
structure Way (b : Box) (way : Nat) (x y : Int) : Prop where
  lo : b.1[way]? = some x
  hi : b.2[way]? = some y
  lt : x < y
theorem Way.parts {sd : List Int} {b : Box} {way : Nat} {x y : Int} (w : Way b way x y) (h : b ∈ halfB sd) : p1 b way (mid x y) ∈ halfB sd ∧ p2 b way (mid x y) ∈ halfB sd := by
  have := InH.parts (mem_halfB.mp h) w.lo w.hi w.lt
  exact ⟨mem_halfB.mpr this.1, mem_halfB.mpr this.2⟩
theorem Way.cells {sd : List Int} {b : Box} {way : Nat} {x y : Int} (w : Way b way x y) (ok : OkB sd b.1 b.2) : (cells b).Perm (cells (p1 b way (mid x y)) ++ cells (p2 b way (mid x y))) := by
  have := w.lt
  exact cells_parts (by rw [ok.len.1, ok.len.2]) w.lo w.hi (by unfold mid; omega) (by unfold mid; omega)
theorem Way.join {sd : List Int} (ps : Pos1 sd) {b : Box} {way : Nat} {x y : Int} (w : Way b way x y) (h : b ∈ halfB sd) (f : Pl → Int) : TB f b = joinT (TB f (p1 b way (mid x y))) (TB f (p2 b way (mid x y))) := by
  have pr := w.parts h
  have k := w.cells ((mem_halfB.mp h).ok ps)
  have n1 := cells_ne ((mem_halfB.mp pr.1).ok ps)
  have n2 := cells_ne ((mem_halfB.mp pr.2).ok ps)
  unfold TB
  rw [tri_perm (k.map f), List.map_append, tri_app (by simpa using n1) (by simpa using n2)]
def many (b : Box) : Nat := (cells b).length
theorem Way.fewer {sd : List Int} (ps : Pos1 sd) {b : Box} {way : Nat} {x y : Int} (w : Way b way x y) (h : b ∈ halfB sd) : many (p1 b way (mid x y)) < many b ∧ many (p2 b way (mid x y)) < many b := by
  have pr := w.parts h
  have k := (w.cells ((mem_halfB.mp h).ok ps)).length_eq
  rw [List.length_append] at k
  have n1 := List.length_pos_iff.mpr (cells_ne ((mem_halfB.mp pr.1).ok ps))
  have n2 := List.length_pos_iff.mpr (cells_ne ((mem_halfB.mp pr.2).ok ps))
  unfold many
  omega
theorem way_of : ∀ {sd : List Int} {lo hi : Pl}, OkB sd lo hi → lo ≠ hi → ∃ way x y, way < lo.length ∧ lo[way]? = some x ∧ hi[way]? = some y ∧ x < y
  | [], [], [], _, n => absurd rfl n
  | [], [], _ :: _, h, _ => h.elim
  | [], _ :: _, _, h, _ => h.elim
  | _ :: _, [], _, h, _ => h.elim
  | _ :: _, _ :: _, [], h, _ => h.elim
  | s :: sd, a :: lo, b :: hi, h, n => by
    by_cases e : a < b
    · exact ⟨0, a, b, by simp, rfl, rfl, e⟩
    · have : a = b := by have := h.1; omega
      subst this
      obtain ⟨way, x, y, h0, h1, h2, h3⟩ := way_of h.2 (fun z => n (by rw [z]))
      exact ⟨way + 1, x, y, by simpa using h0, h1, h2, h3⟩
/-- the field with another number at one place -/
def chg (f : Pl → Int) (p : Pl) (n : Int) : Pl → Int := fun q => if q = p then n else f q
theorem TB_chg {sd : List Int} {f : Pl → Int} {p : Pl} {n : Int} {b : Box} (ok : OkB sd b.1 b.2) (h : inB b.1 b.2 p = false) : TB (chg f p n) b = TB f b := by
  refine TB_congr fun q hq => ?_
  unfold chg
  rw [if_neg]
  rintro rfl
  rw [((mem_cells ok).mp hq).2] at h; cases h
theorem in_one : ∀ {sd : List Int} {q p : Pl}, OkP sd q → OkP sd p → inB q q p = true → q = p
  | [], [], [], _, _, _ => rfl
  | [], [], _ :: _, _, h, _ => h.elim
  | [], _ :: _, _, h, _, _ => h.elim
  | _ :: _, [], _, h, _, _ => h.elim
  | _ :: _, _ :: _, [], _, h, _ => h.elim
  | s :: sd, x :: q, y :: p, h1, h2, h3 => by
    simp only [inB, Bool.and_eq_true, decide_eq_true_eq] at h3
    rw [in_one h1.2 h2.2 h3.2, show x = y by omega]
theorem TB_chg_one {sd : List Int} {f : Pl → Int} {p : Pl} {n : Int} {b : Box} (hp : OkP sd p) (ok : OkB sd b.1 b.2) (e : b.1 = b.2) (h : inB b.1 b.2 p = true) : TB (chg f p n) b = (n, n, n) := by
  obtain ⟨lo, hi⟩ := b
  have e : lo = hi := e
  subst e
  have e2 : lo = p := in_one ok.low hp h
  rw [e2, TB_one]
  simp [chg]
/-- the state of the table when the boxes of dn are done -/
def Mixed (sd : List Int) (f f' : Pl → Int) (p : Pl) (dn : List Box) (g : Box → Tri) : Prop :=
  ∀ b ∈ halfB sd, (inB b.1 b.2 p = false ∨ b ∈ dn) → g b = TB f' b
theorem mixed_start {sd : List Int} (ps : Pos1 sd) {f : Pl → Int} {p : Pl} {n : Int} : Mixed sd f (chg f p n) p [] (TB f) := fun b hb h => by
  rcases h with h | h
  · exact (TB_chg ((mem_halfB.mp hb).ok ps) h).symm
  · cases h
/-- both parts of the next box are right already -/
theorem mixed_parts {sd : List Int} (ps : Pos1 sd) {f f' : Pl → Int} {p : Pl} {dn : List Box} {g : Box → Tri} (m : Mixed sd f f' p dn g) {b : Box} {rest : List Box} {way : Nat} {x y : Int} (w : Way b way x y)
    (hs : (dn ++ b :: rest).Perm ((halfB sd).filter fun b => inB b.1 b.2 p)) (hk : (dn ++ b :: rest).Pairwise fun b c => many b ≤ many c) :
    joinT (g (p1 b way (mid x y))) (g (p2 b way (mid x y))) = TB f' b := by
  have hb : b ∈ halfB sd := (List.mem_filter.mp (hs.mem_iff.mp (List.mem_append_right _ List.mem_cons_self))).1
  have pr := w.parts hb
  have fw := w.fewer ps hb
  have done : ∀ c ∈ halfB sd, many c < many b → g c = TB f' c := fun c hc hm => by
    refine m c hc ?_
    cases hi : inB c.1 c.2 p with
    | false => exact .inl rfl
    | true =>
      refine .inr ?_
      have : c ∈ dn ++ b :: rest := hs.mem_iff.mpr (List.mem_filter.mpr ⟨hc, hi⟩)
      rcases List.mem_append.mp this with h | h
      · exact h
      · have hk2 := (List.pairwise_append.mp hk).2.1
        rcases List.mem_cons.mp h with h | h
        · subst h; omega
        · have := (List.pairwise_cons.mp hk2).1 c h; omega
  rw [done _ pr.1 fw.1, done _ pr.2 fw.2, ← w.join ps hb f']
def setB (g : Box → Tri) (b : Box) (t : Tri) : Box → Tri := fun c => if c = b then t else g c
theorem mixed_next {sd : List Int} {f f' : Pl → Int} {p : Pl} {dn : List Box} {g : Box → Tri} {b : Box} (m : Mixed sd f f' p dn g) : Mixed sd f f' p (dn ++ [b]) (setB g b (TB f' b)) := fun c hc h => by
  unfold setB
  split
  · rename_i e; rw [e]
  · rename_i e
    refine m c hc ?_
    rcases h with h | h
    · exact .inl h
    · rcases List.mem_append.mp h with h | h
      · exact .inr h
      · exact absurd (List.mem_singleton.mp h) e
theorem mixed_end {sd : List Int} {f f' : Pl → Int} {p : Pl} {dn : List Box} {g : Box → Tri} (m : Mixed sd f f' p dn g) (hs : dn.Perm ((halfB sd).filter fun b => inB b.1 b.2 p)) : ∀ b ∈ halfB sd, g b = TB f' b := fun b hb => by
  refine m b hb ?_
  cases hi : inB b.1 b.2 p with
  | false => exact .inl rfl
  | true => exact .inr (hs.mem_iff.mpr (List.mem_filter.mpr ⟨hb, hi⟩))

/-! ### a box by the boxes of its cover -/
theorem join_all (f : Pl → Int) : ∀ (bs : List Box) (l : List Int), l ≠ [] → (∀ b ∈ bs, cells b ≠ []) → bs.foldl (fun t b => joinT t (TB f b)) (tri l) = tri (l ++ (bs.flatMap cells).map f)
  | [], l, _, _ => by simp
  | b :: bs, l, hl, h => by
    have h1 := h b List.mem_cons_self
    rw [List.foldl_cons, show joinT (tri l) (TB f b) = tri (l ++ (cells b).map f) from (tri_app hl (by simpa using h1)).symm, join_all f bs _ (by simp [hl]) fun c hc => h c (List.mem_cons_of_mem _ hc)]
    simp
theorem by_cover {sd : List Int} (ps : Pos1 sd) {b : Box} (h : OkB sd b.1 b.2) (f : Pl → Int) : ∃ c cs, bcov sd b = c :: cs ∧ cs.foldl (fun t b => joinT t (TB f b)) (TB f c) = TB f b := by
  have k := bcov_cells h
  cases hc : bcov sd b with
  | nil =>
    rw [hc] at k
    exact absurd (k.symm.eq_nil) (cells_ne h)
  | cons c cs =>
    refine ⟨c, cs, rfl, ?_⟩
    have ok : ∀ d ∈ c :: cs, cells d ≠ [] := fun d hd => cells_ne ((mem_halfB.mp (bcov_half ps h (hc ▸ hd))).ok ps)
    show cs.foldl _ (tri ((cells c).map f)) = _
    rw [join_all f cs _ (by simpa using ok c List.mem_cons_self) fun d hd => ok d (List.mem_cons_of_mem _ hd), ← List.map_append, ← List.flatMap_cons, ← hc]
    exact tri_perm (k.map f)
end Bx

set_option Elab.async false
set_option linter.all false
set_option maxRecDepth 100000
set_option maxHeartbeats 1000000
/-! Words for the walks: places, boxes, triples by address. -/
namespace Bx
open PySem PySem.Spec PyProof.Rows L2
def PlAt (H : Hp) (a : Addr) (p : Pl) : Prop := H a = some (.tup (p.map V.int))
def BxAt (H : Hp) (a : Addr) (b : Box) : Prop := ∃ x y, H a = some (.tup [.ref x, .ref y]) ∧ PlAt H x b.1 ∧ PlAt H y b.2
def TrAt (H : Hp) (a : Addr) (t : Tri) : Prop := H a = some (.tup [.int t.1, .int t.2.1, .int t.2.2])
abbrev trk (t : Tri) : NestedKey := .tup [.num t.1, .num t.2.1, .num t.2.2]
abbrev enk (e : Box × Tri) : NestedKey := .tup [bxk e.1, trk e.2]
theorem PlAt.tu {H H' : Hp} {a : Addr} {p : Pl} (h : PlAt H a p) (t : Tu H H') : PlAt H' a p := t a _ h
theorem BxAt.tu {H H' : Hp} {a : Addr} {b : Box} (h : BxAt H a b) (t : Tu H H') : BxAt H' a b := by
  obtain ⟨x, y, h, hx, hy⟩ := h
  exact ⟨x, y, t _ _ h, hx.tu t, hy.tu t⟩
theorem TrAt.tu {H H' : Hp} {a : Addr} {b : Tri} (h : TrAt H a b) (t : Tu H H') : TrAt H' a b := t a _ h
theorem PlAt.rep {H : Hp} {a : Addr} {p : Pl} (h : PlAt H a p) : Rep H (plc p) (.ref a) := ⟨a, _, rfl, h, Reps.ints p⟩
theorem rep_pl {H : Hp} {p : Pl} {v : V} (h : Rep H (plc p) v) : ∃ a, v = .ref a ∧ PlAt H a p := by
  obtain ⟨a, xs, rfl, ha, hr⟩ := h
  rw [Reps.ints_eq hr] at ha
  exact ⟨a, rfl, ha⟩
theorem rep_pl' {H : Hp} {p : Pl} {a : Addr} (h : Rep H (plc p) (.ref a)) : PlAt H a p := by
  obtain ⟨b, e, h⟩ := rep_pl h
  cases e; exact h
theorem BxAt.rep {H : Hp} {a : Addr} {b : Box} (h : BxAt H a b) : Rep H (bxk b) (.ref a) := by
  obtain ⟨x, y, h, hx, hy⟩ := h
  exact ⟨a, _, rfl, h, .cons hx.rep (.cons hy.rep .nil)⟩
theorem rep_bx {H : Hp} {b : Box} {v : V} (h : Rep H (bxk b) v) : ∃ a, v = .ref a ∧ BxAt H a b := by
  obtain ⟨a, xs, rfl, ha, x, r, rfl, hx, y, r', rfl, hy, hn⟩ := h
  cases (show r' = [] from hn)
  obtain ⟨x, rfl, h1⟩ := rep_pl hx
  obtain ⟨y, rfl, h2⟩ := rep_pl hy
  exact ⟨a, rfl, x, y, ha, h1, h2⟩
theorem rep_bx' {H : Hp} {b : Box} {a : Addr} (h : Rep H (bxk b) (.ref a)) : BxAt H a b := by
  obtain ⟨c, e, h⟩ := rep_bx h
  cases e; exact h
theorem TrAt.rep {H : Hp} {a : Addr} {t : Tri} (h : TrAt H a t) : Rep H (trk t) (.ref a) := ⟨a, _, rfl, h, .cons rfl (.cons rfl (.cons rfl .nil))⟩
theorem rep_tr {H : Hp} {t : Tri} {v : V} (h : Rep H (trk t) v) : ∃ a, v = .ref a ∧ TrAt H a t := by
  obtain ⟨a, xs, rfl, ha, x, r, rfl, hx, y, r', rfl, hy, z, r2, rfl, hz, hn⟩ := h
  cases (show r2 = [] from hn)
  cases (show x = _ from hx)
  cases (show y = _ from hy)
  cases (show z = _ from hz)
  exact ⟨a, rfl, ha⟩
theorem rep_en {H : Hp} {e : Box × Tri} {v : V} (h : Rep H (enk e) v) : ∃ a x y, v = .ref a ∧ H a = some (.tup [.ref x, .ref y]) ∧ BxAt H x e.1 ∧ TrAt H y e.2 := by
  obtain ⟨a, xs, rfl, ha, x, r, rfl, hx, y, r', rfl, hy, hn⟩ := h
  cases (show r' = [] from hn)
  obtain ⟨x, rfl, h1⟩ := rep_bx hx
  obtain ⟨y, rfl, h2⟩ := rep_tr hy
  exact ⟨a, x, y, rfl, ha, h1, h2⟩
theorem ytup2 {q1 q2 : SrcQ} {i : Nat} {H H' : Hp} {v x y : V} (h : YTup [q1, q2] i H v H') (hx : q1.2.2[i]? = some x) (hy : q2.2.2[i]? = some y) : ∃ T, v = .ref T ∧ H T = none ∧ H' = upd H T (.tup [x, y]) := by
  obtain ⟨T, zs, rfl, n, rfl, e⟩ := h
  simp only [List.map_cons, List.map_nil, hx, hy] at e
  rcases zs with _ | ⟨z, _ | ⟨z2, _ | ⟨z3, r⟩⟩⟩ <;> simp at e
  obtain ⟨rfl, rfl⟩ := e
  exact ⟨T, rfl, n, rfl⟩
theorem ytup3 {q1 q2 q3 : SrcQ} {i : Nat} {H H' : Hp} {v x y z : V} (h : YTup [q1, q2, q3] i H v H') (hx : q1.2.2[i]? = some x) (hy : q2.2.2[i]? = some y) (hz : q3.2.2[i]? = some z) : ∃ T, v = .ref T ∧ H T = none ∧ H' = upd H T (.tup [x, y, z]) := by
  obtain ⟨T, zs, rfl, n, rfl, e⟩ := h
  simp only [List.map_cons, List.map_nil, hx, hy, hz] at e
  rcases zs with _ | ⟨w, _ | ⟨w2, _ | ⟨w3, _ | ⟨w4, r⟩⟩⟩⟩ <;> simp at e
  obtain ⟨rfl, rfl, rfl⟩ := e
  exact ⟨T, rfl, n, rfl⟩
theorem src_pl {K : PySem.W.Frag} {H : Hp} {a : Addr} {p : Pl} (h : PlAt H a p) : Src K H (true, a, p.map V.int) := .inl (.inl h)
theorem srcs2 {K : PySem.W.Frag} {H : Hp} {q1 q2 : SrcQ} (h1 : Src K H q1) (h2 : Src K H q2) : ∀ q ∈ [q1, q2], Src K H q := by
  intro q hq
  rcases List.mem_cons.mp hq with rfl | hq
  · exact h1
  · rw [List.mem_singleton.mp hq]; exact h2
theorem srcs3 {K : PySem.W.Frag} {H : Hp} {q1 q2 q3 : SrcQ} (h1 : Src K H q1) (h2 : Src K H q2) (h3 : Src K H q3) : ∀ q ∈ [q1, q2, q3], Src K H q := by
  intro q hq
  rcases List.mem_cons.mp hq with rfl | hq
  · exact h1
  · exact srcs2 h2 h3 q hq
theorem get_int {p : Pl} {i : Nat} {x : Int} (h : p[i]? = some x) : (p.map V.int)[i]? = some (.int x) := by rw [List.getElem?_map, h]; rfl
theorem small_le {n : Nat} (h : n ≤ 1000000) : n ≤ sizeLine := Nat.le_trans h (by decide)
theorem small_lt {n : Nat} (h : n ≤ 1000000) : n < sizeLine := Nat.lt_of_le_of_lt h (by decide)
theorem okP_zip : ∀ {sd : List Int} {p : Pl}, OkP sd p → ∀ q ∈ p.zip sd, 0 ≤ q.1 ∧ q.1 < q.2
  | [], [], _, q, hq => by cases hq
  | [], _ :: _, h, _, _ => h.elim
  | _ :: _, [], h, _, _ => h.elim
  | s :: sd, x :: p, h, q, hq => by
    rw [List.zip_cons_cons] at hq
    rcases List.mem_cons.mp hq with rfl | hq
    · exact h.1
    · exact okP_zip h.2 q hq
theorem zip_get {α β : Type} {l : List α} {m : List β} {i : Nat} {q : α × β} (h : (l.zip m)[i]? = some q) : l[i]? = some q.1 ∧ m[i]? = some q.2 := by
  rw [List.getElem?_zip_eq_some] at h
  exact h
theorem okB_zip : ∀ {sd : List Int} {lo hi : Pl}, OkB sd lo hi → ∀ q ∈ lo.zip hi, 0 ≤ q.1 ∧ q.1 ≤ q.2
  | [], [], [], _, q, hq => by cases hq
  | [], [], _ :: _, h, _, _ => h.elim
  | [], _ :: _, _, h, _, _ => h.elim
  | _ :: _, [], _, h, _, _ => h.elim
  | _ :: _, _ :: _, [], h, _, _ => h.elim
  | s :: sd, a :: lo, b :: hi, h, q, hq => by
    rw [List.zip_cons_cons] at hq
    rcases List.mem_cons.mp hq with rfl | hq
    · exact ⟨h.1.1, h.1.2.1⟩
    · exact okB_zip h.2 q hq
/-! ### the sides that the law makes -/
def grids : List (List Int) := [[120], [10, 6], [2, 30], [4, 4, 4], [2, 2, 14]]
def LeA : List Int → List Int → Prop
  | [], [] => True
  | s :: sd, g :: gs => (1 ≤ s ∧ s ≤ g) ∧ LeA sd gs
  | _, _ => False
def WS (sd : List Int) : Prop := ∃ g ∈ grids, LeA sd g
theorem LeA.len : ∀ {sd g : List Int}, LeA sd g → sd.length = g.length
  | [], [], _ => rfl
  | [], _ :: _, h => h.elim
  | _ :: _, [], h => h.elim
  | _ :: _, _ :: _, h => by simp [LeA.len h.2]
theorem LeA.ps : ∀ {sd g : List Int}, LeA sd g → Pos1 sd
  | [], _, _, s, hs => by cases hs
  | _ :: _, [], h, _, _ => h.elim
  | _ :: _, _ :: _, h, s, hs => by
    rcases List.mem_cons.mp hs with rfl | hs
    · exact h.1.1
    · exact LeA.ps h.2 s hs
theorem LeA.sm : ∀ {sd g : List Int} {B : Int}, LeA sd g → (∀ x ∈ g, x ≤ B) → ∀ x ∈ sd, x ≤ B
  | [], _, _, _, _, s, hs => by cases hs
  | _ :: _, [], _, h, _, _, _ => h.elim
  | _ :: _, _ :: _, B, h, hg, s, hs => by
    rcases List.mem_cons.mp hs with rfl | hs
    · exact Int.le_trans h.1.2 (hg _ List.mem_cons_self)
    · exact LeA.sm h.2 (fun x hx => hg x (List.mem_cons_of_mem _ hx)) s hs
theorem LeA.szs : ∀ {sd g : List Int}, LeA sd g → Bx.szs sd ≤ Bx.szs g
  | [], [], _ => Nat.le_refl _
  | [], _ :: _, h => h.elim
  | _ :: _, [], h => h.elim
  | _ :: _, _ :: _, h => Nat.mul_le_mul (by have := h.1; omega) (LeA.szs h.2)
theorem stRow_len {s : Int} (h : 1 ≤ s) : (stRow s).length = 2 * (s - 1).toNat + 1 := by
  unfold stRow
  rw [(srt_perm _ _).length_eq, tree_len _ _ _ rfl (by omega)]; congr 2; omega
def hfN : List Int → Nat
  | [] => 1
  | s :: sd => (2 * (s - 1).toNat + 1) * hfN sd
theorem LeA.hfN : ∀ {sd g : List Int}, LeA sd g → Bx.hfN sd ≤ Bx.hfN g
  | [], [], _ => Nat.le_refl _
  | [], _ :: _, h => h.elim
  | _ :: _, [], h => h.elim
  | _ :: _, _ :: _, h => Nat.mul_le_mul (by have := h.1; omega) (LeA.hfN h.2)
theorem WS.ps {sd : List Int} (h : WS sd) : Pos1 sd := by
  obtain ⟨g, _, h⟩ := h
  exact h.ps
theorem grid_all {Pr : List Int → Prop} (h : ∀ g ∈ grids, Pr g) {g : List Int} (hg : g ∈ grids) : Pr g := h g hg
theorem WS.sm {sd : List Int} (h : WS sd) : ∀ x ∈ sd, x ≤ 120 := by
  obtain ⟨g, hg, h⟩ := h
  exact h.sm (grid_all (Pr := fun g => ∀ x ∈ g, x ≤ 120) (by decide +kernel) hg)
theorem WS.len {sd : List Int} (h : WS sd) : sd.length ≤ 3 := by
  obtain ⟨g, hg, h⟩ := h
  rw [h.len]
  exact grid_all (Pr := fun g => g.length ≤ 3) (by decide +kernel) hg
theorem WS.pos {sd : List Int} (h : WS sd) : 0 < sd.length := by
  obtain ⟨g, hg, h⟩ := h
  rw [h.len]
  exact grid_all (Pr := fun g => 0 < g.length) (by decide +kernel) hg
theorem WS.n {sd : List Int} (h : WS sd) : szs sd ≤ 120 := by
  obtain ⟨g, hg, h⟩ := h
  exact Nat.le_trans h.szs (grid_all (Pr := fun g => szs g ≤ 120) (by decide +kernel) hg)
theorem WS.hf {sd : List Int} (h : WS sd) : hfN sd ≤ 343 := by
  obtain ⟨g, hg, h⟩ := h
  exact Nat.le_trans h.hfN (grid_all (Pr := fun g => hfN g ≤ 343) (by decide +kernel) hg)
theorem hfN_rows : ∀ {sd : List Int}, Pos1 sd → rowsN (sd.map stRow) = hfN sd
  | [], _ => rfl
  | s :: sd, h => by
    simp only [List.map_cons, rowsN, hfN, stRow_len (h s List.mem_cons_self), hfN_rows fun x hx => h x (List.mem_cons_of_mem _ hx)]
theorem halfB_len {sd : List Int} (h : WS sd) : (halfB sd).length ≤ 343 := by
  unfold halfB bsort
  rw [(srt_perm _ _).length_eq, prodR_count, hfN_rows h.ps]
  exact h.hf
theorem pb_snoc (rs : List (Int × Int)) (r : Int × Int) : pb (rs ++ [r]) = pbStep (pb rs) r := by rw [← pb_fold0, List.foldl_append, pb_fold0]; rfl
theorem pb_mem_len : ∀ {rs : List (Int × Int)} {p : Pl}, p ∈ pb rs → p.length = rs.length
  | [], p, h => by rw [List.mem_singleton.mp h]; rfl
  | r :: rs, p, h => by
    obtain ⟨x, _, h⟩ := List.mem_flatMap.mp h
    obtain ⟨q, hq, rfl⟩ := List.mem_map.mp h
    simp [pb_mem_len hq]
theorem pb_app_len : ∀ xs ys : List (Int × Int), (pb (xs ++ ys)).length = (pb xs).length * (pb ys).length
  | [], ys => by simp [pb]
  | r :: xs, ys => by
    simp only [List.cons_append, pb, List.length_flatMap, List.length_map, pb_app_len xs ys, List.map_const', List.sum_replicate_nat, Nat.mul_assoc]
theorem pb_ne : ∀ {rs : List (Int × Int)}, (∀ r ∈ rs, r.1 ≤ r.2) → 0 < (pb rs).length
  | [], _ => by simp [pb]
  | r :: rs, h => by
    simp only [pb, List.length_flatMap, List.length_map, List.map_const', List.sum_replicate_nat, rg_len]
    exact Nat.mul_pos (by have := h r List.mem_cons_self; omega) (pb_ne fun q hq => h q (List.mem_cons_of_mem _ hq))
theorem pb_take {rs : List (Int × Int)} (h : ∀ r ∈ rs, r.1 ≤ r.2) (i : Nat) : (pb (rs.take i)).length ≤ (pb rs).length := by
  have e := pb_app_len (rs.take i) (rs.drop i)
  rw [List.take_append_drop] at e
  rw [e]
  exact Nat.le_mul_of_pos_right _ (pb_ne fun r hr => h r (List.mem_of_mem_drop hr))
theorem flatMap_take {α β : Type} (f : α → List β) (l : List α) (j : Nat) : ((l.take j).flatMap f).length ≤ (l.flatMap f).length := by
  conv => rhs; rw [← List.take_append_drop j l, List.flatMap_append, List.length_append]
  omega
theorem cells_le {sd : List Int} {lo hi : Pl} (h : OkB sd lo hi) : (pb (lo.zip hi)).length ≤ szs sd := by
  rw [cells_filter h, ← pls_len]
  exact List.length_filter_le _ _
/-- (a, ..) + (b, ..) -/
theorem cat_pl {K : PySem.W.Frag} {H : Hp} {a b : Addr} {p q : Pl} {Q : VK} (ha : PlAt H a p) (hb : PlAt H b q) (hl : p.length + q.length ≤ 1000000) (k : ∀ c H', Same H H' → PlAt H' c (p ++ q) → Q (.ref c) H') : rCatA K (.ref a) (.ref b) H Q := by
  refine ⟨a, b, p.map V.int, q.map V.int, rfl, rfl, .inl (.inl ha), .inl (.inl hb), by rw [List.length_map, List.length_map]; exact small_le hl, fun e => ?_, fun _ e => ?_, fun _ _ c nc => ?_⟩
  · have : p = [] := by simpa using e
    subst this
    exact k b H (Same.refl H) hb
  · have : q = [] := by simpa using e
    subst this
    exact k a H (Same.refl H) (by rw [List.append_nil]; exact ha)
  · exact k c _ (same_new nc) (by unfold PlAt; rw [upd_same, List.map_append])
theorem by_eq {Q : VK} {u v : V} {H : Hp} (e : u = v) (h : Q v H) : Q u H := e ▸ h
theorem bl_t {p : Prop} [Decidable p] (h : p) : V.bl (decide p) = V.bl true := by rw [decide_eq_true h]
theorem bl_f {p : Prop} [Decidable p] (h : ¬ p) : V.bl (decide p) = V.bl false := by rw [decide_eq_false h]
theorem yat_map {α : Type} {as : List α} {g : α → V} {i : Nat} {H H' : Hp} {x : V} {a : α} (y : YAt (as.map g) i H x H') (h : as[i]? = some a) : x = g a ∧ H = H' := by
  obtain ⟨e, y⟩ := y
  rw [List.getElem?_map, h] at y
  exact ⟨(Option.some.inj y).symm, e.symm⟩
end Bx

set_option Elab.async false
set_option linter.all false
set_option maxRecDepth 100000
set_option maxHeartbeats 1000000
/-! is_whole, is_place, is_box, number_of, cell_at, halved. -/
namespace Bx
open PySem PySem.Spec PyProof.Rows L2
variable {P : Program} {w : World} {K : PySem.W.Frag} {mg : Str → Option Value} {base : Heap}

def sp_is_whole : Sp := fun vs H Q _ => ∃ n : Int, vs = [.int n] ∧ Q (.bl true) H
theorem c_is_whole (T : Tx K mg) : Cal P w K mg base 1 "is_whole" sp_is_whole := by
  refine cal_of T.d_is_whole sc_is_whole (fun vs H Q E h => ?_) (fun f cdv A outer s H vs Q E hr h => ?_)
  · obtain ⟨n, rfl, _⟩ := h; rfl
  · obtain ⟨n, rfl, q⟩ := h
    refine ⟨_, (pss_one (ps_ret (pe_and (pe_callB call_isi (by rfl) T.z_isinstance (by decide +kernel) (pa_cons (pv 0) (pa_cons (pe_bltn (v := .ty "int") rfl T.z_int (by decide +kernel) rfl) pa_nil))) (pe_one (pe_not (pe_callB call_isi (by rfl) T.z_isinstance (by decide +kernel) (pa_cons (pv 0) (pa_cons (pe_bltn (v := .ty "bool") rfl T.z_bool (by decide +kernel) rfl) pa_nil)))))))), ?_⟩
    refine ⟨.int n, rfl, .int n, .ty "int", _, _, true, rfl, .ty _, .base (.int n), kit_ty (by decide +kernel), true, rfl, iteT ?_⟩
    exact ⟨.int n, rfl, .int n, .ty "bool", _, _, false, rfl, .ty _, .base (.int n), kit_ty (by decide +kernel), false, rfl, q⟩

def sp_is_place : Sp := fun vs H Q _ => ∃ (a b : Addr) (sd : List Int) (p : Pl), vs = [.ref a, .ref b] ∧ PlAt H a sd ∧ PlAt H b p ∧ OkP sd p ∧ WS sd ∧ ∀ H', Same H H' → Q (.bl true) H'
theorem c_is_place (T : Tx K mg) : Cal P w K mg base 2 "is_place" (sp_is_place) := by
  have C_is_whole := c_is_whole (P := P) (w := w) (base := base) T
  refine cal_of T.d_is_place sc_is_place (fun vs H Q E h => ?_) (fun f cdv A outer s H vs Q E hr h => ?_)
  · obtain ⟨a, b, _, _, rfl, _⟩ := h; rfl
  · obtain ⟨a, b, sd, p, rfl, ha, hb, ok, hz, q⟩ := h
    refine ⟨_, (pss_cons (ps_if (PW.pt (pw_or (pt_not (pt_val (pe_callB call_isi (by rfl) T.z_isinstance (by decide +kernel) (pa_cons (pv 1) (pa_cons (pe_bltn (v := .ty "tuple") rfl T.z_tuple (by decide +kernel) rfl) pa_nil))))) (pw_or1 (pt_cmpR op_ne (pe_callB call_len_seq (by rfl) T.z_len PySem.boot_len (pa_cons (pv 1) pa_nil)) (pe_callB call_len_seq (by rfl) T.z_len PySem.boot_len (pa_cons (pv 0) pa_nil)) (nomark _))))) (pss_one (ps_ret pe_bl)) pss_nil)
      (pss_one (ps_ret (pe_callB (cr_all rfl) (by rfl) T.z_all (by decide +kernel) (pa_cons (pe_lc (own := [("one", 2), ("side", 3)]) (g := (gTup K 2 (gCons (gName 2) (gCons (gName 3) gNil)))) (tt := tYes) rfl sc_is_place.nd (pi_zip2 (by rfl) T.z_zip (pa_cons (pv 1) (pa_cons (pv 0) pa_nil))) (blkOk_by (N := ["sides", "thing", "one", "side"]) (sc := defScope s_is_place) (by decide +kernel)) (fun _ _ _ _ _ => (pg_tup rfl (pgs_cons (pg_name (i := 2) sc_is_place.nd rfl (Or.inl rfl)) (pgs_cons (pg_name (i := 3) sc_is_place.nd rfl (Or.inl rfl)) pgs_nil)))) (fun _ _ _ _ _ => pts_nil) (fun _ _ _ _ _ => (pe_and (pe_c C_is_whole hr (by decide) (by rfl) (pa_cons (pv 2) pa_nil)) (pe_one (pe_chain op_le op_lt pe_int (pv 2) (pv 3)))))) pa_nil))))), ?_⟩
    have hl : (sd.map V.int).length = (p.map V.int).length := by rw [List.length_map, List.length_map, ok.len]
    refine ⟨.ref b, rfl, .ref b, .ty "tuple", _, _, true, rfl, .ty _, .base (.tup hb), kit_ty (by decide +kernel), true, rfl, iteF ?_⟩
    refine ⟨.ref b, rfl, b, _, rfl, .inr (.inl (.inl hb)), .ref a, rfl, a, _, rfl, .inr (.inl (.inl ha)), rfl, _, rfl, ?_⟩
    rw [hl]
    refine ite2 (fun z => absurd z (by simp)) fun _ => ?_
    refine ⟨.ref b, rfl, .ref a, rfl, (true, b, p.map V.int), (true, a, sd.map V.int), p.length, rfl, src_pl hb, src_pl ha, by simp, by simp [ok.len], fun D hD => ?_⟩
    refine lc_vals (p.zip sd) (fun _ => .bl true) walk_src (by rw [List.length_zip, ok.len, Nat.min_self]) (small_le (by have := hz.len; rw [ok.len]; omega)) hD (fun H' s => srcs2 (src_pl (hb.tu (Same.tu s))) (src_pl (ha.tu (Same.tu s)))) (fun i x v H1 H2 hx s1 y Qy k => ?_) (fun H' s1 hd => ?_)
    · obtain ⟨g1, g2⟩ := zip_get hx
      obtain ⟨t, rfl, nt, rfl⟩ := ytup2 y (get_int g1) (get_int g2)
      have o := okP_zip ok _ (List.mem_of_getElem? hx)
      refine ⟨t, _, rfl, .inl (.inl upd_same), rfl, _, _, rfl, _, _, rfl, rfl, rfl, ?_⟩
      refine ⟨_, rfl, x.1, rfl, true, rfl, iteT ?_⟩
      refine ⟨_, rfl, 0, x.1, rfl, rfl, true, bl_t o.1, iteT ⟨_, rfl, x.1, x.2, rfl, rfl, by_eq (bl_t o.2) (k _ (same_new nt))⟩⟩
    · refine ⟨D, (p.zip sd).map fun _ => true, rfl, .inl (.inl (by rw [hd, List.map_map]; rfl)), ?_⟩
      rw [show ((p.zip sd).map fun _ => true).all id = true by simp]
      exact q _ s1

def sp_is_box : Sp := fun vs H Q _ => ∃ (a c : Addr) (sd : List Int) (b : Box), vs = [.ref a, .ref c] ∧ PlAt H a sd ∧ BxAt H c b ∧ OkB sd b.1 b.2 ∧ WS sd ∧ ∀ H', Same H H' → Q (.bl true) H'
theorem c_is_box (T : Tx K mg) : Cal P w K mg base 3 "is_box" (sp_is_box) := by
  have C_is_place := c_is_place (P := P) (w := w) (base := base) T
  refine cal_of T.d_is_box sc_is_box (fun vs H Q E h => ?_) (fun f cdv A outer s H vs Q E hr h => ?_)
  · obtain ⟨a, b, _, _, rfl, _⟩ := h; rfl
  · obtain ⟨a, c, sd, b, rfl, ha, hb, ok, hz, q⟩ := h
    obtain ⟨x, y, hc, hx, hy⟩ := hb
    refine ⟨_, (pss_cons (ps_if (PW.pt (pw_or (pt_not (pt_val (pe_callB call_isi (by rfl) T.z_isinstance (by decide +kernel) (pa_cons (pv 1) (pa_cons (pe_bltn (v := .ty "tuple") rfl T.z_tuple (by decide +kernel) rfl) pa_nil))))) (pw_or (pt_cmpR op_ne (pe_callB call_len_seq (by rfl) T.z_len PySem.boot_len (pa_cons (pv 1) pa_nil)) pe_int (nomark _)) (pw_or1 (pt_not (pt_val (pe_callB (cr_all rfl) (by rfl) T.z_all (by decide +kernel) (pa_cons (pe_lc (own := [("one", 2)]) (g := (gName 2)) (tt := tYes) rfl sc_is_box.nd (pi_tup (pv 1)) (blkOk_by (N := ["sides", "thing", "one", "first", "last"]) (sc := defScope s_is_box) (by decide +kernel)) (fun _ _ _ _ _ => (pg_name (i := 2) sc_is_box.nd rfl (Or.inl rfl))) (fun _ _ _ _ _ => pts_nil) (fun _ _ _ _ _ => (pe_c C_is_place hr (by decide) (by rfl) (pa_cons (pv 0) (pa_cons (pv 2) pa_nil))))) pa_nil)))))))) (pss_one (ps_ret pe_bl)) pss_nil)
      (pss_one (ps_ret (pe_callB (cr_all rfl) (by rfl) T.z_all (by decide +kernel) (pa_cons (pe_lc (own := [("first", 3), ("last", 4)]) (g := (gTup K 2 (gCons (gName 3) (gCons (gName 4) gNil)))) (tt := tYes) rfl sc_is_box.nd (pi_zip2 (by rfl) T.z_zip (pa_cons (pe_ix (ix_tup : IxR _ (rIxT K)) (pv 1) pe_int (fun _ _ => rfl)) (pa_cons (pe_ix (ix_tup : IxR _ (rIxT K)) (pv 1) pe_int (fun _ _ => rfl)) pa_nil))) (blkOk_by (N := ["sides", "thing", "one", "first", "last"]) (sc := defScope s_is_box) (by decide +kernel)) (fun _ _ _ _ _ => (pg_tup rfl (pgs_cons (pg_name (i := 3) sc_is_box.nd rfl (Or.inl rfl)) (pgs_cons (pg_name (i := 4) sc_is_box.nd rfl (Or.inl rfl)) pgs_nil)))) (fun _ _ _ _ _ => pts_nil) (fun _ _ _ _ _ => (pe_cmpR op_le (pv 3) (pv 4) (nomark _)))) pa_nil))))), ?_⟩
    refine ⟨.ref c, rfl, .ref c, .ty "tuple", _, _, true, rfl, .ty _, .base (.tup hc), kit_ty (by decide +kernel), true, rfl, iteF ?_⟩
    refine ⟨.ref c, rfl, c, _, rfl, .inr (.inl (.inl hc)), rfl, _, rfl, iteF ?_⟩
    refine ⟨.ref c, rfl, c, rfl, ⟨_, .inl (.inl hc)⟩, fun D hD => ?_⟩
    refine lc_vals [(x, b.1), (y, b.2)] (fun _ => .bl true) (walk_tup (xs := [(x, b.1), (y, b.2)].map fun q : Addr × Pl => V.ref q.1)) rfl (small_le (by show 2 ≤ _; decide)) hD (fun H' s => .inl (.inl (s _ _ hc))) (fun i q v H1 H2 hq s1 yy Qy k => ?_) (fun H' s1 hd => ?_)
    · obtain ⟨rfl, rfl⟩ := yat_map yy hq
      have hq' : PlAt H1 q.1 q.2 ∧ OkP sd q.2 := by
        have := List.mem_of_getElem? hq
        rcases List.mem_cons.mp this with rfl | h
        · exact ⟨hx.tu (Same.tu s1), ok.low⟩
        · rw [List.mem_singleton.mp h]; exact ⟨hy.tu (Same.tu s1), ok.high⟩
      exact ⟨rfl, .ref a, rfl, .ref q.1, rfl, a, q.1, sd, q.2, rfl, ha.tu (Same.tu s1), hq'.1, hq'.2, hz, fun H4 s => k H4 s⟩
    · refine ⟨D, [true, true], rfl, .inl (.inl hd), true, rfl, iteF ?_⟩
      -- all([first <= last ..])
      have hc' := s1 _ _ hc
      have hx' := hx.tu (Same.tu s1)
      have hy' := hy.tu (Same.tu s1)
      refine ⟨.ref c, rfl, c, _, 0, _, rfl, rfl, .inl (.inl hc'), rfl, .ref c, rfl, c, _, 1, _, rfl, rfl, .inl (.inl hc'), rfl, ?_⟩
      refine ⟨(true, x, b.1.map V.int), (true, y, b.2.map V.int), sd.length, rfl, src_pl hx', src_pl hy', by simp [ok.len.1], by simp [ok.len.2], fun D2 hD2 => ?_⟩
      refine lc_vals (b.1.zip b.2) (fun _ => .bl true) walk_src (by rw [List.length_zip, ok.len.1, ok.len.2, Nat.min_self]) (small_le (by have := hz.len; omega)) hD2 (fun H2 s => srcs2 (src_pl (hx'.tu (Same.tu s))) (src_pl (hy'.tu (Same.tu s)))) (fun i q v H1 H2 hq s2 yy Qy k => ?_) (fun H2 s2 hd2 => ?_)
      · obtain ⟨g1, g2⟩ := zip_get hq
        obtain ⟨t, rfl, nt, rfl⟩ := ytup2 yy (get_int g1) (get_int g2)
        have o := okB_zip ok _ (List.mem_of_getElem? hq)
        refine ⟨t, _, rfl, .inl (.inl upd_same), rfl, _, _, rfl, _, _, rfl, rfl, rfl, ?_⟩
        exact ⟨_, rfl, _, rfl, q.1, q.2, rfl, rfl, by_eq (bl_t o.2) (k _ (same_new nt))⟩
      · refine ⟨D2, (b.1.zip b.2).map fun _ => true, rfl, .inl (.inl (by rw [hd2, List.map_map]; rfl)), ?_⟩
        rw [show ((b.1.zip b.2).map fun _ => true).all id = true by simp]
        exact q _ (s1.trans s2)

def sp_number_of : Sp := fun vs H Q _ => ∃ (a b : Addr) (sd : List Int) (p : Pl), vs = [.ref a, .ref b] ∧ PlAt H a sd ∧ PlAt H b p ∧ OkP sd p ∧ WS sd ∧ ∀ H', Same H H' → Q (.int (nmF 0 sd p)) H'
theorem nmF_step : ∀ {sd : List Int} {p : Pl} {i : Nat} {s x acc : Int}, sd[i]? = some s → p[i]? = some x → nmF acc (sd.take (i + 1)) (p.take (i + 1)) = nmF acc (sd.take i) (p.take i) * s + x
  | [], _, _, _, _, _, h, _ => by simp at h
  | _ :: _, [], _, _, _, _, _, h => by simp at h
  | t :: sd, y :: p, 0, s, x, acc, h1, h2 => by
    cases h1; cases h2
    cases sd <;> simp [nmF]
  | t :: sd, y :: p, i + 1, s, x, acc, h1, h2 => by
    show nmF (acc * t + y) (sd.take (i + 1)) (p.take (i + 1)) = nmF (acc * t + y) (sd.take i) (p.take i) * s + x
    exact nmF_step h1 h2
theorem c_number_of (T : Tx K mg) : Cal P w K mg base 1 "number_of" (sp_number_of) := by
  refine cal_of T.d_number_of sc_number_of (fun vs H Q E h => ?_) (fun f cdv A outer s H vs Q E hr h => ?_)
  · obtain ⟨a, b, _, _, rfl, _⟩ := h; rfl
  · obtain ⟨a, b, sd, p, rfl, ha, hb, ok, ws, q⟩ := h
    refine ⟨_, (pss_cons (ps_set (i := 2) sc_number_of.nd rfl (Or.inl rfl) pe_int)
      (pss_cons (ps_for PassesOwn.never rfl (pi_zip2 (by rfl) T.z_zip (pa_cons (pv 0) (pa_cons (pv 1) pa_nil))) (pg_tup rfl (pgs_cons (pg_name (i := 3) sc_number_of.nd rfl (Or.inl rfl)) (pgs_cons (pg_name (i := 4) sc_number_of.nd rfl (Or.inl rfl)) pgs_nil))) (pss_one (ps_set (i := 2) sc_number_of.nd rfl (Or.inl rfl) (pe_op op_add (pe_op op_mul (pv 2) (pv 3)) (pv 4)))))
      (pss_one (ps_ret (pv 2))))), ?_⟩
    refine ⟨.ref a, rfl, .ref b, rfl, (true, a, sd.map V.int), (true, b, p.map V.int), sd.length, rfl, src_pl ha, src_pl hb, by simp, by simp [ok.len], ?_⟩
    refine for_it walk_src (fun i σ H' => Same H H' ∧ ∃ y3 y4, σ = [some (.ref a), some (.ref b), some (.int (nmF 0 (sd.take i) (p.take i))), y3, y4]) ⟨Same.refl _, none, none, by simp [nmF]; rfl⟩ (fun i σ H' _ h => srcs2 (src_pl (ha.tu (Same.tu h.1))) (src_pl (hb.tu (Same.tu h.1)))) (fun i v σ H1 H2 hi h y => ?_) (fun σ H1 h => ?_)
    · obtain ⟨s1, y3, y4, rfl⟩ := h
      have hi2 : i < p.length := by rw [ok.len]; exact hi
      have g1 := List.getElem?_eq_getElem hi
      have g2 := List.getElem?_eq_getElem hi2
      obtain ⟨t, rfl, nt, rfl⟩ := ytup2 y (get_int g1) (get_int g2)
      have hs1 := ws.ps _ (List.mem_of_getElem? g1)
      have hs2 := ws.sm _ (List.mem_of_getElem? g1)
      refine ⟨t, _, rfl, .inl (.inl upd_same), rfl, _, _, rfl, _, _, rfl, rfl, ?_⟩
      refine ⟨_, rfl, _, rfl, _, _, rfl, rfl, .inr ⟨by omega, by omega⟩, _, rfl, _, _, rfl, rfl, ?_⟩
      exact ⟨s1.trans (same_new nt), _, _, by rw [nmF_step g1 g2]; rfl⟩
    · obtain ⟨s1, y3, y4, rfl⟩ := h
      refine ⟨_, rfl, ?_⟩
      rw [List.take_length, List.take_of_length_le (by rw [ok.len]; exact Nat.le_refl _)]
      exact q _ s1

def sp_halved : Sp := fun vs H Q _ => ∃ a b : Int, vs = [.int a, .int b] ∧ Q (.int (mid a b)) H
theorem c_halved (T : Tx K mg) : Cal P w K mg base 1 "halved" sp_halved := by
  refine cal_of T.d_halved sc_halved (fun vs H Q E h => ?_) (fun f cdv A outer s H vs Q E hr h => ?_)
  · obtain ⟨a, b, rfl, _⟩ := h; rfl
  · obtain ⟨a, b, rfl, q⟩ := h
    refine ⟨_, (pss_one (ps_ret (pe_op op_fdiv (pe_op op_add (pv 0) (pv 1)) pe_int))), ?_⟩
    exact ⟨_, rfl, _, rfl, a, b, rfl, rfl, _, _, rfl, rfl, ⟨by decide, by decide⟩, q⟩

/-- a field: sides, and a cell for each place -/
structure FdAt (H : Hp) (a : Addr) (sd : List Int) (f : Pl → Int) : Prop where
  ex : ∃ x y, H a = some (.tup [.ref x, .ref y]) ∧ PlAt H x sd ∧ H y = some (.tup ((pls sd).map fun p => .int (f p)))
  ws : WS sd
theorem FdAt.tu {H H' : Hp} {a : Addr} {sd : List Int} {f : Pl → Int} (h : FdAt H a sd f) (t : Tu H H') : FdAt H' a sd f := by
  obtain ⟨x, y, h1, h2, h3⟩ := h.ex
  exact ⟨⟨x, y, t _ _ h1, h2.tu t, t _ _ h3⟩, h.ws⟩
def sp_cell_at : Sp := fun vs H Q _ => ∃ (a b : Addr) (sd : List Int) (f : Pl → Int) (p : Pl), vs = [.ref a, .ref b] ∧ FdAt H a sd f ∧ PlAt H b p ∧ OkP sd p ∧ ∀ H', Same H H' → Q (.int (f p)) H'
theorem c_cell_at (T : Tx K mg) : Cal P w K mg base 2 "cell_at" sp_cell_at := by
  have C_number_of := c_number_of (P := P) (w := w) (base := base) T
  refine cal_of T.d_cell_at sc_cell_at (fun vs H Q E h => ?_) (fun f cdv A outer s H vs Q E hr h => ?_)
  · obtain ⟨a, b, _, _, _, rfl, _⟩ := h; rfl
  · obtain ⟨a, b, sd, g, p, rfl, hf, hb, ok, q⟩ := h
    obtain ⟨x, y, h1, h2, h3⟩ := hf.ex
    refine ⟨_, (pss_one (ps_ret (pe_ix (ix_tup : IxR _ (rIxT K)) (pe_ix (ix_tup : IxR _ (rIxT K)) (pv 0) pe_int (fun _ _ => rfl)) (pe_c C_number_of hr (by decide) (by rfl) (pa_cons (pe_ix (ix_tup : IxR _ (rIxT K)) (pv 0) pe_int (fun _ _ => rfl)) (pa_cons (pv 1) pa_nil))) (fun _ _ => rfl)))), ?_⟩
    refine ⟨.ref a, rfl, a, _, 1, _, rfl, rfl, .inl (.inl h1), rfl, .ref a, rfl, a, _, 0, _, rfl, rfl, .inl (.inl h1), rfl, .ref b, rfl, ?_⟩
    refine ⟨x, b, sd, p, rfl, h2, hb, ok, hf.ws, fun H1 s1 => ?_⟩
    obtain ⟨j, e, hj, hg⟩ := nm_get ok
    refine ⟨y, _, _, .int (g p), rfl, rfl, .inl (.inl (s1 _ _ h3)), ?_, q _ s1⟩
    rw [e]
    exact atI_nat (by rw [List.getElem?_map, hg]; rfl)
end Bx

set_option Elab.async false
set_option linter.all false
set_option maxRecDepth 100000
set_option maxHeartbeats 1000000
/-! places_between. -/
namespace Bx
open PySem PySem.Spec PyProof.Rows L2
variable {P : Program} {w : World} {K : PySem.W.Frag} {mg : Str → Option Value} {base : Heap}
def sp_places_between : Sp := fun vs H Q _ => ∃ (a b : Addr) (sd lo hi : List Int), vs = [.ref a, .ref b] ∧ PlAt H a lo ∧ PlAt H b hi ∧ WS sd ∧ OkB sd lo hi ∧ ∀ p H', Same H H' → H p = none → Ls H' p ((pb (lo.zip hi)).map plc) → Q (.ref p) H'
theorem c_places_between (T : Tx K mg) : Cal P w K mg base 1 "places_between" sp_places_between := by
  refine cal_of T.d_places_between sc_places_between (fun vs H Q E h => ?_) (fun f cdv A outer s H vs Q E hr h => ?_)
  · obtain ⟨a, b, _, _, _, rfl, _⟩ := h; rfl
  · obtain ⟨a, b, sd, lo, hi, rfl, ha, hb, ws, ok, q⟩ := h
    have hle : ∀ r ∈ lo.zip hi, r.1 ≤ r.2 := fun r hr => (okB_zip ok r hr).2
    have hzl : (lo.zip hi).length = sd.length := by rw [List.length_zip, ok.len.1, ok.len.2, Nat.min_self]
    have hN : (pb (lo.zip hi)).length ≤ 120 := Nat.le_trans (cells_le ok) ws.n
    refine ⟨_, (pss_cons (ps_set (i := 2) sc_places_between.nd rfl (Or.inl rfl) (pe_lst (pa_cons (pe_tup pa_nil) pa_nil)))
      (pss_cons (ps_for PassesOwn.never rfl (pi_zip2 (by rfl) T.z_zip (pa_cons (pv 0) (pa_cons (pv 1) pa_nil))) (pg_tup rfl (pgs_cons (pg_name (i := 3) sc_places_between.nd rfl (Or.inl rfl)) (pgs_cons (pg_name (i := 4) sc_places_between.nd rfl (Or.inl rfl)) pgs_nil))) (pss_cons (ps_set (i := 5) sc_places_between.nd rfl (Or.inl rfl) (pe_lst pa_nil))
      (pss_cons (ps_for PassesOwn.never rfl (pi_list (pv 2)) (pg_name (i := 6) sc_places_between.nd rfl (Or.inr rfl)) (pss_one (ps_expr (pe_bm PySem.F.plainAttrs_list PySem.F.slot_list_extend PySem.F.type_list_extend mt_extend (pv 5) (pa_cons (pe_lc (own := [("one", 7)]) (g := (gName 7)) (tt := tYes) rfl sc_places_between.nd (pi_range2 (by rfl) T.z_range (pa_cons (pv 3) (pa_cons (pe_op op_add (pv 4) pe_int) pa_nil))) (blkOk_by (N := ["low", "high", "found", "first", "last", "longer", "place", "one"]) (sc := defScope s_places_between) (by decide +kernel)) (fun _ _ _ _ _ => (pg_name (i := 7) sc_places_between.nd rfl (Or.inl rfl))) (fun _ _ _ _ _ => pts_nil) (fun _ _ _ _ _ => (pe_op (op_catA : OpR _ (binaryOp .Add) (rCatA K)) (pv 6) (pe_tup (pa_cons (pv 7) pa_nil))))) pa_nil)))))
      (pss_one (ps_set (i := 2) sc_places_between.nd rfl (Or.inl rfl) (pv 5))))))
      (pss_one (ps_ret (pv 2))))), ?_⟩
    refine ⟨Nat.zero_le _, fun e0 ne0 => ⟨small_le (by show 1 ≤ _; decide), fun L nL => ?_⟩⟩
    have sL : Same H (upd (upd H e0 (.tup [])) L (.lst [.ref e0])) := same_fresh (same_none (same_new ne0) nL) (same_new ne0)
    have fL : H L = none := same_none (same_new ne0) nL
    have e0L : e0 ≠ L := ne_of_none (upd_same) nL
    have r0 : Reps (upd (upd H e0 (.tup [])) L (.lst [.ref e0])) (([[]] : List Pl).map plc) [.ref e0] := .cons ⟨e0, [], rfl, by rw [upd_ne e0L, upd_same], .nil⟩ .nil
    refine ⟨.ref a, rfl, .ref b, rfl, (true, a, lo.map V.int), (true, b, hi.map V.int), sd.length, rfl, src_pl (ha.tu (Same.tu sL)), src_pl (hb.tu (Same.tu sL)), by simp [ok.len.1], by simp [ok.len.2], ?_⟩
    refine for_it walk_src (fun i σ H1 => Same H H1 ∧ ∃ y L y3 y4 y5 y6, σ = [some (.ref a), some (.ref b), some (.ref L), y3, y4, y5, y6, y] ∧ H L = none ∧ Ls H1 L ((pb ((lo.zip hi).take i)).map plc)) ⟨sL, none, L, none, none, none, none, rfl, fL, _, upd_same, r0⟩ (fun i σ H' _ h => srcs2 (src_pl (ha.tu (Same.tu h.1))) (src_pl (hb.tu (Same.tu h.1)))) (fun i v σ H1 H2 hi' h y => ?_) (fun σ H1 h => ?_)
    · obtain ⟨s1, y7, L, y3, y4, y5, y6, rfl, fL, fs, hL, rL⟩ := h
      have g := List.getElem?_eq_getElem (show i < (lo.zip hi).length by omega)
      obtain ⟨g1, g2⟩ := zip_get g
      have o := okB_zip ok _ (List.mem_of_getElem? g)
      have hx := ws.sm
      generalize (lo.zip hi)[i] = r at g g1 g2 o
      have hr2 : r.2 < 1000 := by
        have := mem_pls.mpr ok.high
        have h3 : ∀ {sd : List Int} {p : Pl}, OkP sd p → (∀ x ∈ sd, x ≤ 120) → ∀ x ∈ p, x < 1000 := by
          intro sd
          induction sd with
          | nil => intro p hp _ x hx; cases p with
            | nil => cases hx
            | cons _ _ => exact hp.elim
          | cons s sd ih => intro p hp hs x hx; cases p with
            | nil => cases hx
            | cons y p =>
              rcases List.mem_cons.mp hx with rfl | hx
              · have := hs s List.mem_cons_self; have := hp.1; omega
              · exact ih hp.2 (fun x hx => hs x (List.mem_cons_of_mem _ hx)) x hx
        exact h3 ok.high ws.sm _ (List.mem_of_getElem? g2)
      obtain ⟨t, rfl, nt, rfl⟩ := ytup2 y (get_int g1) (get_int g2)
      refine ⟨t, _, rfl, .inl (.inl upd_same), rfl, _, _, rfl, _, _, rfl, rfl, ?_⟩
      -- longer = []
      refine ⟨Nat.zero_le _, fun M nM => ?_⟩
      have st : Same H1 (upd H1 t (.tup [V.int r.1, V.int r.2])) := same_new nt
      have fM : H1 M = none := same_none st nM
      have sM : Same H1 (upd (upd H1 t (.tup [V.int r.1, V.int r.2])) M (.lst [])) := same_fresh fM st
      have hstep : pb ((lo.zip hi).take (i + 1)) = pbStep (pb ((lo.zip hi).take i)) r := by
        rw [List.take_add_one, g]; exact pb_snoc _ _
      have hfull : (pbStep (pb ((lo.zip hi).take i)) r).length ≤ 120 := by rw [← hstep]; exact Nat.le_trans (pb_take hle _) hN
      refine ⟨.ref L, rfl, L, rfl, ⟨fs, .inl (.inl (sM _ _ hL))⟩, ?_⟩
      refine for_it (walk_list (xs := fs)) (fun j σ H2 => Same H1 H2 ∧ ∃ y6 y7, σ = [some (.ref a), some (.ref b), some (.ref L), some (.int r.1), some (.int r.2), some (.ref M), y6, y7] ∧ Ls H2 M ((pbStep ((pb ((lo.zip hi).take i)).take j) r).map plc))
        ⟨sM, y6, y7, rfl, [], upd_same, .nil⟩ (fun j σ H2 _ h => .inl (.inl (h.1 _ _ hL))) (fun j x σ H2 H3 hj h yj => ?_) (fun σ H2 h => ?_)
      · obtain ⟨s2, y6, y7, rfl, ms, hM, rM⟩ := h
        obtain ⟨rfl, gx⟩ := yj
        obtain ⟨k, gk, rk⟩ := rL.get' gx
        rw [List.getElem?_map] at gk
        obtain ⟨p, gp, rfl⟩ := Option.map_eq_some_iff.mp gk
        obtain ⟨pa, rfl, hp⟩ := rep_pl (rk.mono (Same.tu s2))
        have hpl : p.length ≤ 3 := by
          rw [pb_mem_len (List.mem_of_getElem? gp), List.length_take]
          have := ws.len
          omega
        refine ⟨.ref M, rfl, .inl ⟨rfl, _, .inl (.inl hM)⟩, ?_⟩
        refine ⟨.int r.1, rfl, .int r.2, rfl, r.2, 1, rfl, rfl, r.1, r.2 + 1, rfl, ⟨by omega, by omega, by omega, by omega⟩, fun D hD => ?_⟩
        refine lc_data (rg r.1 r.2) (fun z => plc (p ++ [z])) walk_range (by rw [rg_len]) (small_le (by omega)) hD (fun _ _ => trivial) (fun m z v H4 H5 hz s4 yz Qy kq => ?_) (fun H4 zs s4 hD4 rz => ?_)
        · obtain ⟨rfl, rfl⟩ := yz
          have hm : m < (r.2 + 1 - r.1).toNat := by rw [← rg_len]; exact (List.getElem?_eq_some_iff.mp hz).1
          rw [rg_get hm] at hz
          cases hz
          refine ⟨rfl, .ref pa, rfl, .int (r.1 + (m : Int)), rfl, small_le (by show 1 ≤ _; decide), fun t nt => ?_⟩
          have st := same_new (o := .tup [V.int (r.1 + (m : Int))]) nt
          exact cat_pl (p := p) (q := [r.1 + (m : Int)]) ((hp.tu (Same.tu s4)).tu (Same.tu st)) (by unfold PlAt; rw [upd_same]; rfl) (by simp; omega) fun c H6 s6 h6 => kq _ _ (st.trans s6) h6.rep
        · have hM4 := s4 _ _ hM
          have hDM : D ≠ M := fun e => by rw [e, hM] at hD; cases hD
          have ej : pbStep ((pb ((lo.zip hi).take i)).take (j + 1)) r = pbStep ((pb ((lo.zip hi).take i)).take j) r ++ (rg r.1 r.2).map fun x => p ++ [x] := by
            rw [List.take_add_one, gp]
            simp [pbStep]
          have hlen : (pbStep ((pb ((lo.zip hi).take i)).take (j + 1)) r).length ≤ 120 := Nat.le_trans (flatMap_take _ _ _) hfull
          refine ⟨M, D, ms, zs, rfl, rfl, hM4, hD4, ?_, ?_⟩
          · rw [ej, List.length_append] at hlen
            rw [rM.length, rz.length, List.length_map, List.length_map]
            refine small_le ?_
            rw [List.length_map] at hlen
            omega
          · refine ⟨same_fresh fM (s2.trans s4), _, _, rfl, ms ++ zs, upd_same, ?_⟩
            rw [ej, List.map_append, List.map_map]
            exact Reps.append ((rM.mono (Same.tu s4)).mono (Tu.lst hM4)) (rz.mono (Tu.lst hM4))
      · obtain ⟨s2, y6, y7, rfl, ms, hM, rM⟩ := h
        rw [rL.length, List.length_map, List.take_length] at rM
        exact ⟨_, rfl, s1.trans s2, _, M, _, _, _, _, rfl, same_none s1 fM, ms, hM, by rw [hstep]; exact rM⟩
    · obtain ⟨s1, y7, L, y3, y4, y5, y6, rfl, fL, hL⟩ := h
      rw [← hzl, List.take_length] at hL
      exact ⟨_, rfl, q L _ s1 fL hL⟩
end Bx

set_option Elab.async false
set_option linter.all false
set_option maxRecDepth 100000
set_option maxHeartbeats 1000000
/-! stretches, _law_stretches, cover. -/
namespace Bx
open PySem PySem.Spec PyProof.Rows L2
variable {P : Program} {w : World} {K : PySem.W.Frag} {mg : Str → Option Value} {base : Heap}
abbrev qk (q : Int × Int) : NestedKey := plc (pkey q)
abbrev trq (q : Int × Int) : List (Int × Int) := tree q.1 q.2
theorem plc_depth (p : Pl) : (plc p).depth ≤ 1 := by
  show NestedKey.depthAll (p.map .num) + 1 ≤ 1
  have : NestedKey.depthAll (p.map .num) ≤ 0 := depthAll_le fun k hk => by
    obtain ⟨x, _, rfl⟩ := List.mem_map.mp hk
    exact Nat.le_refl _
  omega
theorem stRow_of {s : Int} {l : List (Int × Int)} {ps' : List Pl} (hp : ps'.Perm (l.map pkey)) (hl : l.Perm (tree 0 (s - 1))) (hs : ps'.Pairwise fun x y => lexLt y x = false) : ps' = (stRow s).map pkey := by
  refine sorted_uniq (key := id) (fun _ _ h => h) (hp.trans ((hl.trans (srt_perm pkey _).symm).map pkey)) hs ?_
  exact List.pairwise_map.mpr (srt_sorted pkey _)
theorem reps_qk {H : Hp} {l : List (Int × Int)} {xs : List V} (h : Reps H (l.map qk) xs) : Reps H ((l.map pkey).map plc) xs := by rw [List.map_map]; exact h
theorem reps_qk' {H : Hp} {l : List (Int × Int)} {xs : List V} (h : Reps H ((l.map pkey).map plc) xs) : Reps H (l.map qk) xs := by rw [List.map_map] at h; exact h
theorem last_split {α : Type} {l : List α} (h : l ≠ []) : ∃ r x, l = r ++ [x] := ⟨l.dropLast, l.getLast h, (List.dropLast_concat_getLast h).symm⟩
theorem last_get {xs r : List V} {x : V} (h : xs = r ++ [x]) : xs[xs.length - 1]? = some x := by subst h; simp

/-- what both ways of finding the stretches keep -/
theorem tree_open {dn r : List (Int × Int)} {q : Int × Int} {s : Int} (hp : (dn ++ (q :: r).flatMap trq).Perm (tree 0 (s - 1))) (hq : q.1 < q.2) :
    ((dn ++ [q]) ++ (r ++ [(q.1, mid q.1 q.2), (mid q.1 q.2 + 1, q.2)]).flatMap trq).Perm (tree 0 (s - 1)) := by
  refine List.Perm.trans ?_ hp
  rw [List.flatMap_cons, List.flatMap_append, show trq q = q :: (tree q.1 (mid q.1 q.2) ++ tree (mid q.1 q.2 + 1) q.2) from tree_lt hq]
  simp only [List.append_assoc, List.cons_append, List.nil_append, List.flatMap_cons, List.flatMap_nil, List.append_nil]
  refine List.Perm.append_left _ (List.Perm.cons _ ?_)
  rw [← List.append_assoc (tree q.1 (mid q.1 q.2))]
  exact List.perm_append_comm
theorem tree_shut {dn r : List (Int × Int)} {q : Int × Int} {s : Int} (hp : (dn ++ (q :: r).flatMap trq).Perm (tree 0 (s - 1))) (hq : ¬ q.1 < q.2) :
    ((dn ++ [q]) ++ r.flatMap trq).Perm (tree 0 (s - 1)) := by
  refine List.Perm.trans (.of_eq ?_) hp
  rw [List.flatMap_cons, show trq q = [q] from tree_ge hq]
  simp
theorem trq_pos (q : Int × Int) : 0 < (trq q).length := List.length_pos_of_mem (tree_top q.1 q.2)
theorem flat_len (l : List (Int × Int)) : l.length ≤ (l.flatMap trq).length := by
  induction l with
  | nil => exact Nat.le_refl _
  | cons q l ih =>
    rw [List.flatMap_cons, List.length_append, List.length_cons]
    have := trq_pos q
    omega

def sp_stretches : Sp := fun vs H Q _ => ∃ s : Int, vs = [.int s] ∧ 1 ≤ s ∧ s ≤ 120 ∧ ∀ p H', Same H H' → H p = none → Ls H' p ((stRow s).map qk) → Q (.ref p) H'
theorem c_stretches (T : Tx K mg) : Cal P w K mg base 2 "stretches" sp_stretches := by
  have C_halved := c_halved (P := P) (w := w) (base := base) T
  refine cal_of T.d_stretches sc_stretches (fun vs H Q E h => ?_) (fun f cdv A outer s H vs Q E hr h => ?_)
  · obtain ⟨_, rfl, _⟩ := h; rfl
  · obtain ⟨n, rfl, h1, h2, q⟩ := h
    have hN : (tree 0 (n - 1)).length ≤ 240 := by rw [tree_len _ _ _ rfl (by omega)]; omega
    refine ⟨_, (pss_cons (ps_set (i := 1) sc_stretches.nd rfl (Or.inl rfl) (pe_lst (pa_cons (pe_tup (pa_cons pe_int (pa_cons (pe_op op_sub (pv 0) pe_int) pa_nil))) pa_nil)))
      (pss_cons (ps_set (i := 2) sc_stretches.nd rfl (Or.inl rfl) pe_int)
      (pss_cons (ps_while PassesOwn.never (pt_cmpR op_lt (pv 2) (pe_callB call_len_seq (by rfl) T.z_len PySem.boot_len (pa_cons (pv 1) pa_nil)) (nomark _)) (pss_cons (ps_asg (pe_ix (ix_list : IxR _ (rIxL K)) (pv 1) (pv 2) (fun _ _ => rfl)) (pg_tup rfl (pgs_cons (pg_name (i := 3) sc_stretches.nd rfl (Or.inl rfl)) (pgs_cons (pg_name (i := 4) sc_stretches.nd rfl (Or.inl rfl)) pgs_nil))))
      (pss_cons (ps_if (pt_cmpR op_lt (pv 3) (pv 4) (nomark _)) (pss_cons (ps_set (i := 5) sc_stretches.nd rfl (Or.inl rfl) (pe_c C_halved hr (by decide) (by rfl) (pa_cons (pv 3) (pa_cons (pv 4) pa_nil))))
      (pss_one (ps_expr (pe_bm PySem.F.plainAttrs_list PySem.F.slot_list_extend PySem.F.type_list_extend mt_extend (pv 1) (pa_cons (pe_lst (pa_cons (pe_tup (pa_cons (pv 3) (pa_cons (pv 5) pa_nil))) (pa_cons (pe_tup (pa_cons (pe_op op_add (pv 5) pe_int) (pa_cons (pv 4) pa_nil))) pa_nil))) pa_nil))))) pss_nil)
      (pss_one (ps_set (i := 2) sc_stretches.nd rfl (Or.inl rfl) (pe_op op_add (pv 2) pe_int))))))
      (pss_one (ps_ret (pe_callB cr_sortPl (by rfl) T.z_sorted (by decide +kernel) (pa_cons (pv 1) pa_nil))))))), ?_⟩
    refine ⟨.int n, rfl, n, 1, rfl, rfl, small_le (by show 2 ≤ _; decide), fun t nt => ⟨small_le (by show 1 ≤ _; decide), fun L nL => ?_⟩⟩
    have fL : H L = none := same_none (same_new nt) nL
    refine ⟨fun m σ H1 => Same H H1 ∧ ∃ (dn r : List (Int × Int)) (xs : List V) (y3 y4 y5 : Option V), σ = [some (.int n), some (.ref L), some (.int dn.length), y3, y4, y5] ∧ H1 L = some (.lst xs) ∧ Reps H1 ((dn ++ r).map qk) xs ∧ (dn ++ r.flatMap trq).Perm (tree 0 (n - 1)) ∧ m = (r.flatMap trq).length,
      ⟨_, same_fresh fL (same_new nt), [], [(0, n - 1)], _, none, none, none, rfl, upd_same, ?_, by simp, rfl⟩, ?_⟩
    · have : t ≠ L := ne_of_none upd_same nL
      exact .cons (k := qk (0, n - 1)) (PlAt.rep (p := [0, n - 1]) (by unfold PlAt; rw [upd_ne this, upd_same]; rfl)) .nil
    rintro m σ H1 ⟨s1, dn, r, xs, y3, y4, y5, rfl, hL, rr, hp, rfl⟩
    have lxs : xs.length = dn.length + r.length := by rw [rr.length, List.length_map, List.length_append]
    have ltot : dn.length + (r.flatMap trq).length ≤ 240 := by
      have := hp.length_eq
      rw [List.length_append] at this; omega
    have lr := flat_len r
    refine ⟨_, rfl, .ref L, rfl, L, _, rfl, .inl (.inl (.inl hL)), _, _, rfl, rfl, _, rfl, ite2 (fun e => ?_) (fun e => ?_)⟩
    · have hlt : (dn.length : Int) < xs.length := of_decide_eq_true e
      obtain ⟨x, r, rfl⟩ : ∃ x r', r = x :: r' := by
        cases r with
        | nil => simp at lxs; omega
        | cons x r => exact ⟨x, r, rfl⟩
      have gk : ((dn ++ x :: r).map qk)[dn.length]? = some (qk x) := by simp
      obtain ⟨v, gv, rv⟩ := rr.get gk
      obtain ⟨c, rfl, hc⟩ := rep_pl rv
      refine ⟨fun σ' H' => Same H H' ∧ ∃ (dn' r' : List (Int × Int)) (xs : List V) (y3 y4 y5 : Option V), σ' = [some (.int n), some (.ref L), some (.int dn'.length), y3, y4, y5] ∧ H' L = some (.lst xs) ∧ Reps H' ((dn' ++ r').map qk) xs ∧ (dn' ++ r'.flatMap trq).Perm (tree 0 (n - 1)) ∧ (r'.flatMap trq).length < ((x :: r).flatMap trq).length,
        fun σ' H' h => ?_, ?_⟩
      · obtain ⟨s2, dn', r', xs, y3, y4, y5, h1, h2, h3, h4, h5⟩ := h
        exact ⟨_, h5, s2, dn', r', xs, y3, y4, y5, h1, h2, h3, h4, rfl⟩
      refine ⟨_, rfl, _, rfl, L, _, _, _, rfl, rfl, .inl (.inl hL), atI_nat gv, c, _, rfl, .inl (.inl hc), rfl, _, _, rfl, _, _, rfl, rfl, ?_⟩
      refine ⟨_, rfl, _, rfl, x.1, x.2, rfl, rfl, _, rfl, ite2 (fun e2 => ?_) (fun e2 => ?_)⟩
      · have hx : x.1 < x.2 := of_decide_eq_true e2
        have hp' := tree_open hp hx
        refine ⟨_, rfl, _, rfl, x.1, x.2, rfl, ?_⟩
        refine ⟨_, rfl, .inl ⟨rfl, _, .inl (.inl hL)⟩, _, rfl, _, rfl, small_le (by show 2 ≤ _; decide), fun t1 n1 => ⟨_, rfl, mid x.1 x.2, 1, rfl, rfl, _, rfl, small_le (by show 2 ≤ _; decide), fun t2 n2 => ⟨small_le (by show 2 ≤ _; decide), fun M nM => ?_⟩⟩⟩
        have sa := same_new (o := .tup [V.int x.1, V.int (mid x.1 x.2)]) n1
        have sb := same_new (o := .tup [V.int (mid x.1 x.2 + 1), V.int x.2]) n2
        have sc := same_new (o := .lst [V.ref t1, V.ref t2]) nM
        have sabc := sa.trans (sb.trans sc)
        have e1 : PlAt (upd (upd (upd H1 t1 (.tup [V.int x.1, V.int (mid x.1 x.2)])) t2 (.tup [V.int (mid x.1 x.2 + 1), V.int x.2])) M (.lst [V.ref t1, V.ref t2])) t1 (pkey (x.1, mid x.1 x.2)) := sc _ _ (sb _ _ upd_same)
        have e3 : PlAt (upd (upd (upd H1 t1 (.tup [V.int x.1, V.int (mid x.1 x.2)])) t2 (.tup [V.int (mid x.1 x.2 + 1), V.int x.2])) M (.lst [V.ref t1, V.ref t2])) t2 (pkey (mid x.1 x.2 + 1, x.2)) := sc _ _ upd_same
        have hL' := sabc _ _ hL
        refine ⟨L, M, xs, _, rfl, rfl, hL', upd_same, ?_, ?_⟩
        · rw [lxs]
          rw [List.length_cons] at lr ⊢
          exact small_le (by show dn.length + (r.length + 1) + 2 ≤ _; omega)
        · refine ⟨_, rfl, dn.length, 1, rfl, rfl, ?_⟩
          refine ⟨same_fresh fL (s1.trans sabc), dn ++ [x], r ++ [(x.1, mid x.1 x.2), (mid x.1 x.2 + 1, x.2)], _, _, _, _, by rw [List.length_append]; rfl, upd_same, ?_, hp', ?_⟩
          · have e4 : dn ++ [x] ++ (r ++ [(x.1, mid x.1 x.2), (mid x.1 x.2 + 1, x.2)]) = (dn ++ x :: r) ++ [(x.1, mid x.1 x.2), (mid x.1 x.2 + 1, x.2)] := by simp
            rw [e4, List.map_append]
            exact Reps.append ((rr.mono (Same.tu sabc)).mono (Tu.lst hL')) (Reps.mono (Tu.lst hL') (.cons e1.rep (.cons e3.rep .nil)))
          · have a1 := hp.length_eq
            have a2 := hp'.length_eq
            simp only [List.length_append, List.length_singleton] at a1 a2
            omega
      · have hx : ¬ x.1 < x.2 := fun z => e2 (decide_eq_true z)
        have hp' := tree_shut hp hx
        refine ⟨_, rfl, dn.length, 1, rfl, rfl, ?_⟩
        refine ⟨s1, dn ++ [x], r, xs, _, _, _, by rw [List.length_append]; rfl, hL, ?_, hp', ?_⟩
        · rw [show dn ++ [x] ++ r = dn ++ x :: r by simp]; exact rr
        · rw [List.flatMap_cons, List.length_append]
          have := trq_pos x
          omega
    · have hge : ¬ (dn.length : Int) < xs.length := fun z => e (decide_eq_true z)
      have : r = [] := by
        cases r with
        | nil => rfl
        | cons x r => rw [List.length_cons] at lxs; omega
      subst this
      simp only [List.append_nil, List.flatMap_nil] at rr hp
      refine ⟨_, rfl, L, xs, dn.map pkey, 2, rfl, .inl (.inl hL), reps_qk rr, by decide, fun p hp => ?_, fun p ys ps' hpm hpw hrr np => ?_⟩
      · obtain ⟨x, _, rfl⟩ := List.mem_map.mp hp; rfl
      · rw [stRow_of hpm hp hpw] at hrr
        exact q p _ (s1.trans (same_new np)) (same_none s1 np) ⟨ys, upd_same, (reps_qk' hrr).mono (Tu.new np)⟩
end Bx

set_option Elab.async false
set_option linter.all false
set_option maxRecDepth 100000
set_option maxHeartbeats 1000000
/-! _law_stretches, cover. -/
namespace Bx
open PySem PySem.Spec PyProof.Rows L2
variable {P : Program} {w : World} {K : PySem.W.Frag} {mg : Str → Option Value} {base : Heap}
theorem qk_depths (l : List (Int × Int)) : NestedKey.depthAll (l.map qk) + 1 ≤ 64 := by
  have : NestedKey.depthAll (l.map qk) ≤ 1 := depthAll_le fun k hk => by
    obtain ⟨x, _, rfl⟩ := List.mem_map.mp hk
    exact plc_depth _
  omega
theorem upd_swap_at {H : Hp} {a b : Addr} {o : HO} (h : a ≠ b) : upd H b o a = H a := upd_ne h
theorem tree_openR {dn r : List (Int × Int)} {q : Int × Int} {s : Int} (hp : (dn ++ (r ++ [q]).flatMap trq).Perm (tree 0 (s - 1))) (hq : q.1 < q.2) :
    ((dn ++ [q]) ++ (r ++ [(q.1, mid q.1 q.2)] ++ [(mid q.1 q.2 + 1, q.2)]).flatMap trq).Perm (tree 0 (s - 1)) := by
  have h1 : (dn ++ (q :: r).flatMap trq).Perm (tree 0 (s - 1)) := (List.Perm.append_left _ ((List.perm_append_comm (l₁ := [q]) (l₂ := r)).flatMap_right trq)).trans hp
  have h2 := tree_open h1 hq
  simpa using h2
theorem tree_shutR {dn r : List (Int × Int)} {q : Int × Int} {s : Int} (hp : (dn ++ (r ++ [q]).flatMap trq).Perm (tree 0 (s - 1))) (hq : ¬ q.1 < q.2) :
    ((dn ++ [q]) ++ r.flatMap trq).Perm (tree 0 (s - 1)) := by
  have h1 : (dn ++ (q :: r).flatMap trq).Perm (tree 0 (s - 1)) := (List.Perm.append_left _ ((List.perm_append_comm (l₁ := [q]) (l₂ := r)).flatMap_right trq)).trans hp
  exact tree_shut h1 hq
/-- x.pop() of a list of data -/
theorem pop_last {H : Hp} {r : List (Int × Int)} {q : Int × Int} {xs : List V} (h : Reps H ((r ++ [q]).map qk) xs) : ∃ ys c, xs = ys ++ [.ref c] ∧ Reps H (r.map qk) ys ∧ PlAt H c (pkey q) := by
  have hl := h.length
  rw [List.length_map, List.length_append, List.length_singleton] at hl
  obtain ⟨v, gv, rv⟩ := h.get (i := r.length) (k := qk q) (by simp)
  obtain ⟨c, rfl, hc⟩ := rep_pl rv
  have ht := h.take r.length
  rw [List.map_append, List.take_left' (by simp)] at ht
  refine ⟨xs.take r.length, c, ?_, ht, hc⟩
  have e : xs = xs.take r.length ++ xs.drop r.length := (List.take_append_drop _ _).symm
  have e2 : xs.drop r.length = [V.ref c] := by
    rw [List.drop_eq_getElem_cons (by omega), List.drop_eq_nil_of_le (by omega)]
    rw [List.getElem?_eq_getElem (by omega)] at gv
    rw [Option.some.inj gv]
  rw [e2] at e; exact e

def sp__law_stretches : Sp := sp_stretches
theorem c__law_stretches (T : Tx K mg) : Cal P w K mg base 1 "_law_stretches" sp_stretches := by
  refine cal_of T.d__law_stretches sc__law_stretches (fun vs H Q E h => ?_) (fun f cdv A outer s H vs Q E hr h => ?_)
  · obtain ⟨_, rfl, _⟩ := h; rfl
  · obtain ⟨n, rfl, h1, h2, q⟩ := h
    have hN : (tree 0 (n - 1)).length ≤ 240 := by rw [tree_len _ _ _ rfl (by omega)]; omega
    refine ⟨_, (pss_cons (ps_set (i := 1) sc__law_stretches.nd rfl (Or.inl rfl) (pe_lst pa_nil))
      (pss_cons (ps_set (i := 2) sc__law_stretches.nd rfl (Or.inl rfl) (pe_lst (pa_cons (pe_tup (pa_cons pe_int (pa_cons (pe_op op_sub (pv 0) pe_int) pa_nil))) pa_nil)))
      (pss_cons (ps_while PassesOwn.never (pt_cmpR (op_neK (hu64 hr) : OpR _ (compareOp .NotEq) (rNeK K)) (pv 2) (pe_lst pa_nil) (nomark _)) (pss_cons (ps_asg (pe_bm0 PySem.F.plainAttrs_list PySem.F.slot_list_pop PySem.F.type_list_pop mt_pop (pv 2)) (pg_tup rfl (pgs_cons (pg_name (i := 3) sc__law_stretches.nd rfl (Or.inl rfl)) (pgs_cons (pg_name (i := 4) sc__law_stretches.nd rfl (Or.inl rfl)) pgs_nil))))
      (pss_cons (ps_expr (pe_bm PySem.F.plainAttrs_list PySem.F.slot_list_append PySem.F.type_list_append mt_append (pv 1) (pa_cons (pe_tup (pa_cons (pv 3) (pa_cons (pv 4) pa_nil))) pa_nil)))
      (pss_one (ps_if (pt_cmpR op_lt (pv 3) (pv 4) (nomark _)) (pss_cons (ps_expr (pe_bm PySem.F.plainAttrs_list PySem.F.slot_list_append PySem.F.type_list_append mt_append (pv 2) (pa_cons (pe_tup (pa_cons (pv 3) (pa_cons (pe_op op_fdiv (pe_op op_add (pv 3) (pv 4)) pe_int) pa_nil))) pa_nil)))
      (pss_one (ps_expr (pe_bm PySem.F.plainAttrs_list PySem.F.slot_list_append PySem.F.type_list_append mt_append (pv 2) (pa_cons (pe_tup (pa_cons (pe_op op_add (pe_op op_fdiv (pe_op op_add (pv 3) (pv 4)) pe_int) pe_int) (pa_cons (pv 4) pa_nil))) pa_nil))))) pss_nil)))))
      (pss_one (ps_ret (pe_callB cr_sortPl (by rfl) T.z_sorted (by decide +kernel) (pa_cons (pv 1) pa_nil))))))), ?_⟩
    refine ⟨Nat.zero_le _, fun L nL => ⟨_, rfl, n, 1, rfl, rfl, small_le (by show 2 ≤ _; decide), fun t nt => ⟨small_le (by show 1 ≤ _; decide), fun M nM => ?_⟩⟩⟩
    have sL := same_new (o := .lst []) nL
    have sT := same_new (o := .tup [V.int 0, V.int (n - 1)]) nt
    have fM : H M = none := same_none (sL.trans sT) nM
    have tM : t ≠ M := ne_of_none upd_same nM
    have LM : L ≠ M := ne_of_none (sT _ _ upd_same) nM
    refine ⟨fun m σ H1 => Same H H1 ∧ ∃ (dn r : List (Int × Int)) (xs zs : List V) (y3 y4 : Option V), σ = [some (.int n), some (.ref L), some (.ref M), y3, y4] ∧ H1 L = some (.lst xs) ∧ H1 M = some (.lst zs) ∧ Reps H1 (dn.map qk) xs ∧ Reps H1 (r.map qk) zs ∧ (dn ++ r.flatMap trq).Perm (tree 0 (n - 1)) ∧ m = (r.flatMap trq).length,
      ⟨_, same_fresh fM (sL.trans sT), [], [(0, n - 1)], _, _, none, none, rfl, by rw [upd_ne LM]; exact sT _ _ upd_same, upd_same, .nil, ?_, by simp, rfl⟩, ?_⟩
    · exact .cons (k := qk (0, n - 1)) (PlAt.rep (p := [0, n - 1]) (by unfold PlAt; rw [upd_ne tM, upd_same]; rfl)) .nil
    rintro m σ H1 ⟨s1, dn, r, xs, zs, y3, y4, rfl, hL, hM, rx, rz, hp, rfl⟩
    have ltot : dn.length + (r.flatMap trq).length ≤ 240 := by
      have := hp.length_eq
      rw [List.length_append] at this; omega
    have lr := flat_len r
    have lx : xs.length = dn.length := by rw [rx.length, List.length_map]
    have lz : zs.length = r.length := by rw [rz.length, List.length_map]
    have LM : L ≠ M := fun e => by
      subst e
      exact LM rfl
    refine ⟨_, rfl, Nat.zero_le _, fun E0 nE0 => ?_⟩
    have sE := same_new (o := .lst []) nE0
    have hM0 := sE _ _ hM
    have hL0 := sE _ _ hL
    refine ⟨.inl (r.map qk), .inl [], .lst (.inl (.inl hM0)) (rz.mono (Same.tu sE)), .lst (.inl (.inl upd_same)) .nil, qk_depths r, by decide, _, rfl, ite2 (fun e => ?_) (fun e => ?_)⟩
    · have hr0 : r ≠ [] := fun z => by subst z; simp at e
      obtain ⟨r, x, rfl⟩ := last_split hr0
      obtain ⟨ys, c, rfl, ry, hc⟩ := pop_last rz
      refine ⟨fun σ' H' => Same H H' ∧ ∃ (dn' r' : List (Int × Int)) (xs zs : List V) (y3 y4 : Option V), σ' = [some (.int n), some (.ref L), some (.ref M), y3, y4] ∧ H' L = some (.lst xs) ∧ H' M = some (.lst zs) ∧ Reps H' (dn'.map qk) xs ∧ Reps H' (r'.map qk) zs ∧ (dn' ++ r'.flatMap trq).Perm (tree 0 (n - 1)) ∧ (r'.flatMap trq).length < ((r ++ [x]).flatMap trq).length,
        fun σ' H' h => ?_, ?_⟩
      · obtain ⟨s2, dn', r', xs, zs, y3, y4, h1, h2, h3, h4, h5, h6, h7⟩ := h
        exact ⟨_, h7, s2, dn', r', xs, zs, y3, y4, h1, h2, h3, h4, h5, h6, rfl⟩
      refine ⟨_, rfl, .inl ⟨rfl, _, .inl (.inl hM0)⟩, M, _, _, rfl, rfl, hM0, last_get rfl, ?_⟩
      rw [List.dropLast_concat]
      -- the heap after pop
      have hc2 : PlAt (upd (upd H1 E0 (.lst [])) M (.lst ys)) c (pkey x) := (hc.tu (Same.tu sE)).tu (Tu.lst hM0)
      have rx2 := (rx.mono (Same.tu sE)).mono (Tu.lst (o := .lst ys) hM0)
      have ry2 := (ry.mono (Same.tu sE)).mono (Tu.lst (o := .lst ys) hM0)
      have hL2 : upd (upd H1 E0 (.lst [])) M (.lst ys) L = some (.lst xs) := by rw [upd_ne LM]; exact hL0
      have hM2 : upd (upd H1 E0 (.lst [])) M (.lst ys) M = some (.lst ys) := upd_same
      have s2 : Same H (upd (upd H1 E0 (.lst [])) M (.lst ys)) := same_fresh fM (s1.trans sE)
      generalize upd (upd H1 E0 (.lst [])) M (.lst ys) = H2 at hc2 rx2 ry2 hL2 hM2 s2
      refine ⟨c, _, rfl, .inl (.inl hc2), rfl, _, _, rfl, _, _, rfl, rfl, ?_⟩
      -- found.append((low, high))
      refine ⟨_, rfl, .inl ⟨rfl, _, .inl (.inl hL2)⟩, _, rfl, _, rfl, small_le (by show 2 ≤ _; decide), fun t3 n3 => ?_⟩
      have s3 := same_new (o := .tup [V.int x.1, V.int x.2]) n3
      have e3 : PlAt (upd H2 t3 (.tup [V.int x.1, V.int x.2])) t3 (pkey x) := upd_same
      have fL : H L = none := same_none (Same.refl H) (by
        rcases hh : H L with _ | o
        · rfl
        · rw [hh] at nL; cases nL)
      refine ⟨L, xs, _, rfl, rfl, s3 _ _ hL2, ?_, ?_⟩
      · rw [lx]; exact small_lt (by omega)
      have tl := Tu.lst (o := .lst (xs ++ [V.ref t3])) (s3 _ _ hL2)
      have hM4 : upd (upd H2 t3 (.tup [V.int x.1, V.int x.2])) L (.lst (xs ++ [V.ref t3])) M = some (.lst ys) := by rw [upd_ne LM.symm]; exact s3 _ _ hM2
      have hL4 : upd (upd H2 t3 (.tup [V.int x.1, V.int x.2])) L (.lst (xs ++ [V.ref t3])) L = some (.lst (xs ++ [V.ref t3])) := upd_same
      have rx4 : Reps (upd (upd H2 t3 (.tup [V.int x.1, V.int x.2])) L (.lst (xs ++ [V.ref t3]))) ((dn ++ [x]).map qk) (xs ++ [V.ref t3]) := by
        rw [List.map_append]
        exact Reps.append ((rx2.mono (Same.tu s3)).mono tl) (.cons (e3.tu tl).rep .nil)
      have ry4 := (ry2.mono (Same.tu s3)).mono tl
      have s4 : Same H (upd (upd H2 t3 (.tup [V.int x.1, V.int x.2])) L (.lst (xs ++ [V.ref t3]))) := same_fresh fL (s2.trans s3)
      generalize upd (upd H2 t3 (.tup [V.int x.1, V.int x.2])) L (.lst (xs ++ [V.ref t3])) = H4 at hM4 hL4 rx4 ry4 s4
      have lry : ys.length = r.length := by rw [ry.length, List.length_map]
      have lr2 : r.length ≤ 240 := by rw [List.length_append] at lr; omega
      refine ⟨_, rfl, _, rfl, x.1, x.2, rfl, rfl, _, rfl, ite2 (fun e2 => ?_) (fun e2 => ?_)⟩
      · have hx : x.1 < x.2 := of_decide_eq_true e2
        have hp' := tree_openR hp hx
        refine ⟨_, rfl, .inl ⟨rfl, _, .inl (.inl hM4)⟩, _, rfl, _, rfl, _, rfl, _, _, rfl, rfl, _, _, rfl, rfl, ⟨by decide, by decide⟩, small_le (by show 2 ≤ _; decide), fun t5 n5 => ?_⟩
        have s5 := same_new (o := .tup [V.int x.1, V.int (mid x.1 x.2)]) n5
        have e5 : PlAt (upd H4 t5 (.tup [V.int x.1, V.int (mid x.1 x.2)])) t5 (pkey (x.1, mid x.1 x.2)) := upd_same
        refine ⟨M, ys, _, rfl, rfl, s5 _ _ hM4, by rw [lry]; exact small_lt (by omega), ?_⟩
        have tm := Tu.lst (o := .lst (ys ++ [V.ref t5])) (s5 _ _ hM4)
        have hL6 : upd (upd H4 t5 (.tup [V.int x.1, V.int (mid x.1 x.2)])) M (.lst (ys ++ [V.ref t5])) L = some (.lst (xs ++ [V.ref t3])) := by rw [upd_ne LM]; exact s5 _ _ hL4
        have hM6 : upd (upd H4 t5 (.tup [V.int x.1, V.int (mid x.1 x.2)])) M (.lst (ys ++ [V.ref t5])) M = some (.lst (ys ++ [V.ref t5])) := upd_same
        have rx6 := (rx4.mono (Same.tu s5)).mono tm
        have ry6 : Reps (upd (upd H4 t5 (.tup [V.int x.1, V.int (mid x.1 x.2)])) M (.lst (ys ++ [V.ref t5]))) ((r ++ [(x.1, mid x.1 x.2)]).map qk) (ys ++ [V.ref t5]) := by
          rw [List.map_append]
          exact Reps.append ((ry4.mono (Same.tu s5)).mono tm) (.cons (e5.tu tm).rep .nil)
        have s6 : Same H (upd (upd H4 t5 (.tup [V.int x.1, V.int (mid x.1 x.2)])) M (.lst (ys ++ [V.ref t5]))) := same_fresh fM (s4.trans s5)
        refine ⟨_, rfl, .inl ⟨rfl, _, .inl (.inl hM6)⟩, _, rfl, _, rfl, _, _, rfl, rfl, _, _, rfl, rfl, ⟨by decide, by decide⟩, _, _, rfl, rfl, _, rfl, small_le (by show 2 ≤ _; decide), fun t7 n7 => ?_⟩
        have s7 := same_new (o := .tup [V.int (mid x.1 x.2 + 1), V.int x.2]) n7
        have e7 : PlAt (upd (upd (upd H4 t5 (.tup [V.int x.1, V.int (mid x.1 x.2)])) M (.lst (ys ++ [V.ref t5]))) t7 (.tup [V.int (mid x.1 x.2 + 1), V.int x.2])) t7 (pkey (mid x.1 x.2 + 1, x.2)) := upd_same
        refine ⟨M, _, _, rfl, rfl, s7 _ _ hM6, by rw [List.length_append, lry]; exact small_lt (by show r.length + 1 ≤ _; omega), ?_⟩
        have tm7 := Tu.lst (o := .lst (ys ++ [V.ref t5] ++ [V.ref t7])) (s7 _ _ hM6)
        refine ⟨same_fresh fM (s6.trans s7), dn ++ [x], r ++ [(x.1, mid x.1 x.2)] ++ [(mid x.1 x.2 + 1, x.2)], _, _, _, _, rfl, by rw [upd_ne LM]; exact s7 _ _ hL6, upd_same, (rx6.mono (Same.tu s7)).mono tm7, ?_, hp', ?_⟩
        · rw [List.map_append]
          exact Reps.append ((ry6.mono (Same.tu s7)).mono tm7) (.cons (e7.tu tm7).rep .nil)
        · have a1 := hp.length_eq
          have a2 := hp'.length_eq
          simp only [List.length_append, List.length_singleton] at a1 a2
          omega
      · have hx : ¬ x.1 < x.2 := fun z => e2 (decide_eq_true z)
        have hp' := tree_shutR hp hx
        refine ⟨s4, dn ++ [x], r, _, _, _, _, rfl, hL4, hM4, rx4, ry4, hp', ?_⟩
        rw [List.flatMap_append, List.length_append]
        have := trq_pos x
        simp; exact trq_pos x
    · have hr0 : r = [] := by
        cases r with
        | nil => rfl
        | cons x r => exact absurd (by simp) e
      subst hr0
      simp only [List.append_nil, List.flatMap_nil] at hp
      refine ⟨_, rfl, L, xs, dn.map pkey, 2, rfl, .inl (.inl hL0), reps_qk (rx.mono (Same.tu sE)), by decide, fun p hp => ?_, fun p ys ps' hpm hpw hrr np => ?_⟩
      · obtain ⟨x, _, rfl⟩ := List.mem_map.mp hp; rfl
      · rw [stRow_of hpm hp hpw] at hrr
        exact q p _ ((s1.trans sE).trans (same_new np)) (same_none (s1.trans sE) np) ⟨ys, upd_same, (reps_qk' hrr).mono (Tu.new np)⟩
end Bx

set_option Elab.async false
set_option linter.all false
set_option maxRecDepth 100000
set_option maxHeartbeats 1000000
/-! cover. -/
namespace Bx
open PySem PySem.Spec PyProof.Rows L2
variable {P : Program} {w : World} {K : PySem.W.Frag} {mg : Str → Option Value} {base : Heap}
theorem and_le {i j k l : Nat} {σ : L2.St} {H : Hp} {Q : Bool → Hp → Prop} {a b c d : Int} (ha : σ[i]? = some (some (.int a))) (hb : σ[j]? = some (some (.int b))) (hc : σ[k]? = some (some (.int c))) (hd : σ[l]? = some (some (.int d)))
    (q : Q (decide (a ≤ b) && decide (c ≤ d)) H) : tAnd (tTest (tOp (rI0 fun i j => V.bl (decide (i ≤ j))) (tVar i) (tVar j))) (tTest (tOp (rI0 fun i j => V.bl (decide (i ≤ j))) (tVar k) (tVar l))) σ H Q := by
  refine ⟨_, ha, _, hb, a, b, rfl, rfl, _, rfl, ?_⟩
  cases h : decide (a ≤ b) with
  | true =>
    rw [h, Bool.true_and] at q
    exact iteT ⟨_, hc, _, hd, c, d, rfl, rfl, _, rfl, q⟩
  | false =>
    rw [h, Bool.false_and] at q
    exact iteF q
def sp_cover : Sp := fun vs H Q _ => ∃ s lo hi : Int, vs = [.int s, .int lo, .int hi] ∧ 1 ≤ s ∧ s ≤ 120 ∧ ∀ p H', Same H H' → H p = none → Ls H' p ((cov lo hi 0 (s - 1)).map qk) → Q (.ref p) H'
theorem c_cover (T : Tx K mg) : Cal P w K mg base 2 "cover" sp_cover := by
  have C_halved := c_halved (P := P) (w := w) (base := base) T
  refine cal_of T.d_cover sc_cover (fun vs H Q E h => ?_) (fun f cdv A outer s H vs Q E hr h => ?_)
  · obtain ⟨_, _, _, rfl, _⟩ := h; rfl
  · obtain ⟨n, lo, hi, rfl, h1, h2, q⟩ := h
    have hN : (tree 0 (n - 1)).length ≤ 240 := by rw [tree_len _ _ _ rfl (by omega)]; omega
    have hC : (cov lo hi 0 (n - 1)).length ≤ 240 := by
      have := cov_len (lo := lo) (hi := hi) _ 0 (n - 1) rfl (by omega)
      omega
    refine ⟨_, (pss_cons (ps_set (i := 3) sc_cover.nd rfl (Or.inl rfl) (pe_lst pa_nil))
      (pss_cons (ps_set (i := 4) sc_cover.nd rfl (Or.inl rfl) (pe_lst (pa_cons (pe_tup (pa_cons pe_int (pa_cons (pe_op op_sub (pv 0) pe_int) pa_nil))) pa_nil)))
      (pss_cons (ps_while PassesOwn.never (pt_cmpR (op_neK (hu64 hr) : OpR _ (compareOp .NotEq) (rNeK K)) (pv 4) (pe_lst pa_nil) (nomark _)) (pss_cons (ps_asg (pe_bm0 PySem.F.plainAttrs_list PySem.F.slot_list_pop PySem.F.type_list_pop mt_pop (pv 4)) (pg_tup rfl (pgs_cons (pg_name (i := 5) sc_cover.nd rfl (Or.inl rfl)) (pgs_cons (pg_name (i := 6) sc_cover.nd rfl (Or.inl rfl)) pgs_nil))))
      (pss_one (ps_if (PW.pt (pw_and (pt_cmpR op_le (pv 1) (pv 5) (nomark _)) (pw_and1 (pt_cmpR op_le (pv 6) (pv 2) (nomark _))))) (pss_one (ps_expr (pe_bm PySem.F.plainAttrs_list PySem.F.slot_list_append PySem.F.type_list_append mt_append (pv 3) (pa_cons (pe_tup (pa_cons (pv 5) (pa_cons (pv 6) pa_nil))) pa_nil)))) (pss_one (ps_if (PW.pt (pw_and (pt_cmpR op_le (pv 5) (pv 2) (nomark _)) (pw_and1 (pt_cmpR op_le (pv 1) (pv 6) (nomark _))))) (pss_cons (ps_set (i := 7) sc_cover.nd rfl (Or.inl rfl) (pe_c C_halved hr (by decide) (by rfl) (pa_cons (pv 5) (pa_cons (pv 6) pa_nil))))
      (pss_one (ps_expr (pe_bm PySem.F.plainAttrs_list PySem.F.slot_list_extend PySem.F.type_list_extend mt_extend (pv 4) (pa_cons (pe_lst (pa_cons (pe_tup (pa_cons (pe_op op_add (pv 7) pe_int) (pa_cons (pv 6) pa_nil))) (pa_cons (pe_tup (pa_cons (pv 5) (pa_cons (pv 7) pa_nil))) pa_nil))) pa_nil))))) pss_nil))))))
      (pss_one (ps_ret (pv 3)))))), ?_⟩
    refine ⟨Nat.zero_le _, fun L nL => ⟨_, rfl, n, 1, rfl, rfl, small_le (by show 2 ≤ _; decide), fun t nt => ⟨small_le (by show 1 ≤ _; decide), fun M nM => ?_⟩⟩⟩
    have sL := same_new (o := .lst []) nL
    have sT := same_new (o := .tup [V.int 0, V.int (n - 1)]) nt
    have fM : H M = none := same_none (sL.trans sT) nM
    have tM : t ≠ M := ne_of_none upd_same nM
    have LM : L ≠ M := ne_of_none (sT _ _ upd_same) nM
    have fL : H L = none := nL
    refine ⟨fun m σ H1 => Same H H1 ∧ ∃ (dn r : List (Int × Int)) (xs zs : List V) (y5 y6 y7 : Option V), σ = [some (.int n), some (.int lo), some (.int hi), some (.ref L), some (.ref M), y5, y6, y7] ∧ H1 L = some (.lst xs) ∧ H1 M = some (.lst zs) ∧ Reps H1 (dn.map qk) xs ∧ Reps H1 (r.map qk) zs ∧
        dn ++ r.reverse.flatMap (fun q => cov lo hi q.1 q.2) = cov lo hi 0 (n - 1) ∧ (∀ q ∈ r, q.1 ≤ q.2) ∧ m = (r.flatMap trq).length ∧ m ≤ 240,
      ⟨_, same_fresh fM (sL.trans sT), [], [(0, n - 1)], _, _, none, none, none, rfl, by rw [upd_ne LM]; exact sT _ _ upd_same, upd_same, .nil, ?_, by simp, by simp; omega, rfl, by simpa using hN⟩, ?_⟩
    · exact .cons (k := qk (0, n - 1)) (PlAt.rep (p := [0, n - 1]) (by unfold PlAt; rw [upd_ne tM, upd_same]; rfl)) .nil
    rintro m σ H1 ⟨s1, dn, r, xs, zs, y5, y6, y7, rfl, hL, hM, rx, rz, hp, hle, rfl, hm⟩
    have lr := flat_len r
    have lx : xs.length = dn.length := by rw [rx.length, List.length_map]
    have lz : zs.length = r.length := by rw [rz.length, List.length_map]
    refine ⟨_, rfl, Nat.zero_le _, fun E0 nE0 => ?_⟩
    have sE := same_new (o := .lst []) nE0
    have hM0 := sE _ _ hM
    have hL0 := sE _ _ hL
    refine ⟨.inl (r.map qk), .inl [], .lst (.inl (.inl hM0)) (rz.mono (Same.tu sE)), .lst (.inl (.inl upd_same)) .nil, qk_depths r, by decide, _, rfl, ite2 (fun e => ?_) (fun e => ?_)⟩
    · have hr0 : r ≠ [] := fun z => by subst z; simp at e
      obtain ⟨r, x, rfl⟩ := last_split hr0
      obtain ⟨ys, c, rfl, ry, hc⟩ := pop_last rz
      have hx : x.1 ≤ x.2 := hle x (by simp)
      have hle' : ∀ q ∈ r, q.1 ≤ q.2 := fun q hq => hle q (List.mem_append_left _ hq)
      have hp1 : dn ++ (cov lo hi x.1 x.2 ++ r.reverse.flatMap fun q => cov lo hi q.1 q.2) = cov lo hi 0 (n - 1) := by rw [← hp]; simp
      have ldn : dn.length ≤ 240 := by
        have := congrArg List.length hp
        rw [List.length_append] at this; omega
      have em : ((r ++ [x]).flatMap trq).length = (r.flatMap trq).length + (trq x).length := by simp
      have lr2 : r.length ≤ 240 := by rw [List.length_append] at lr; omega
      have lry : ys.length = r.length := by rw [ry.length, List.length_map]
      refine ⟨fun σ' H' => Same H H' ∧ ∃ (dn' r' : List (Int × Int)) (xs zs : List V) (y5 y6 y7 : Option V), σ' = [some (.int n), some (.int lo), some (.int hi), some (.ref L), some (.ref M), y5, y6, y7] ∧ H' L = some (.lst xs) ∧ H' M = some (.lst zs) ∧ Reps H' (dn'.map qk) xs ∧ Reps H' (r'.map qk) zs ∧
          dn' ++ r'.reverse.flatMap (fun q => cov lo hi q.1 q.2) = cov lo hi 0 (n - 1) ∧ (∀ q ∈ r', q.1 ≤ q.2) ∧ (r'.flatMap trq).length < ((r ++ [x]).flatMap trq).length,
        fun σ' H' h => ?_, ?_⟩
      · obtain ⟨s2, dn', r', xs, zs, y5, y6, y7, h1, h2, h3, h4, h5, h6, h7, h8⟩ := h
        exact ⟨_, h8, s2, dn', r', xs, zs, y5, y6, y7, h1, h2, h3, h4, h5, h6, h7, rfl, by omega⟩
      refine ⟨_, rfl, .inl ⟨rfl, _, .inl (.inl hM0)⟩, M, _, _, rfl, rfl, hM0, last_get rfl, ?_⟩
      rw [List.dropLast_concat]
      have hc2 : PlAt (upd (upd H1 E0 (.lst [])) M (.lst ys)) c (pkey x) := (hc.tu (Same.tu sE)).tu (Tu.lst hM0)
      have rx2 := (rx.mono (Same.tu sE)).mono (Tu.lst (o := .lst ys) hM0)
      have ry2 := (ry.mono (Same.tu sE)).mono (Tu.lst (o := .lst ys) hM0)
      have hL2 : upd (upd H1 E0 (.lst [])) M (.lst ys) L = some (.lst xs) := by rw [upd_ne LM]; exact hL0
      have hM2 : upd (upd H1 E0 (.lst [])) M (.lst ys) M = some (.lst ys) := upd_same
      have s2 : Same H (upd (upd H1 E0 (.lst [])) M (.lst ys)) := same_fresh fM (s1.trans sE)
      generalize upd (upd H1 E0 (.lst [])) M (.lst ys) = H2 at hc2 rx2 ry2 hL2 hM2 s2
      refine ⟨c, _, rfl, .inl (.inl hc2), rfl, _, _, rfl, _, _, rfl, rfl, and_le rfl rfl rfl rfl ?_⟩
      refine ite2 (fun e => ?_) (fun e => ?_)
      · have cin : lo ≤ x.1 ∧ x.2 ≤ hi := by simpa using e
        refine ⟨_, rfl, .inl ⟨rfl, _, .inl (.inl hL2)⟩, _, rfl, _, rfl, small_le (by show 2 ≤ _; decide), fun t3 n3 => ?_⟩
        have s3 := same_new (o := .tup [V.int x.1, V.int x.2]) n3
        have e3 : PlAt (upd H2 t3 (.tup [V.int x.1, V.int x.2])) t3 (pkey x) := upd_same
        refine ⟨L, xs, _, rfl, rfl, s3 _ _ hL2, by rw [lx]; exact small_lt (by omega), ?_⟩
        have tl := Tu.lst (o := .lst (xs ++ [V.ref t3])) (s3 _ _ hL2)
        refine ⟨same_fresh fL (s2.trans s3), dn ++ [x], r, _, _, _, _, _, rfl, upd_same, by rw [upd_ne LM.symm]; exact s3 _ _ hM2, ?_, (ry2.mono (Same.tu s3)).mono tl, ?_, hle', ?_⟩
        · rw [List.map_append]
          exact Reps.append ((rx2.mono (Same.tu s3)).mono tl) (.cons (e3.tu tl).rep .nil)
        · rw [← hp1, cov_in cin]; simp
        · rw [em]; have := trq_pos x; omega
      · have cout : ¬ (lo ≤ x.1 ∧ x.2 ≤ hi) := by simpa using e
        refine and_le rfl rfl rfl rfl ?_
        refine ite2 (fun e => ?_) (fun e => ?_)
        · have c2 : x.1 ≤ hi ∧ lo ≤ x.2 := by simpa using e
          have hlt : x.1 < x.2 := by omega
          refine ⟨_, rfl, _, rfl, x.1, x.2, rfl, ?_⟩
          refine ⟨_, rfl, .inl ⟨rfl, _, .inl (.inl hM2)⟩, _, rfl, mid x.1 x.2, 1, rfl, rfl, _, rfl, small_le (by show 2 ≤ _; decide), fun t1 n1 => ⟨_, rfl, _, rfl, small_le (by show 2 ≤ _; decide), fun t2 n2 => ⟨small_le (by show 2 ≤ _; decide), fun Z nZ => ?_⟩⟩⟩
          have sa := same_new (o := .tup [V.int (mid x.1 x.2 + 1), V.int x.2]) n1
          have sb := same_new (o := .tup [V.int x.1, V.int (mid x.1 x.2)]) n2
          have sc := same_new (o := .lst [V.ref t1, V.ref t2]) nZ
          have sabc := sa.trans (sb.trans sc)
          have e1 : PlAt (upd (upd (upd H2 t1 (.tup [V.int (mid x.1 x.2 + 1), V.int x.2])) t2 (.tup [V.int x.1, V.int (mid x.1 x.2)])) Z (.lst [V.ref t1, V.ref t2])) t1 (pkey (mid x.1 x.2 + 1, x.2)) := sc _ _ (sb _ _ upd_same)
          have e3 : PlAt (upd (upd (upd H2 t1 (.tup [V.int (mid x.1 x.2 + 1), V.int x.2])) t2 (.tup [V.int x.1, V.int (mid x.1 x.2)])) Z (.lst [V.ref t1, V.ref t2])) t2 (pkey (x.1, mid x.1 x.2)) := sc _ _ upd_same
          have hM' := sabc _ _ hM2
          have tm := Tu.lst (o := .lst (ys ++ [V.ref t1, V.ref t2])) hM'
          refine ⟨M, Z, ys, _, rfl, rfl, hM', upd_same, by rw [lry]; exact small_le (by show r.length + 2 ≤ _; omega), ?_⟩
          refine ⟨same_fresh fM (s2.trans sabc), dn, r ++ [(mid x.1 x.2 + 1, x.2), (x.1, mid x.1 x.2)], _, _, _, _, _, rfl, by rw [upd_ne LM]; exact sabc _ _ hL2, upd_same, (rx2.mono (Same.tu sabc)).mono tm, ?_, ?_, ?_, ?_⟩
          · rw [List.map_append]
            exact Reps.append ((ry2.mono (Same.tu sabc)).mono tm) (Reps.mono tm (.cons e1.rep (.cons e3.rep .nil)))
          · rw [← hp1, cov_cut cout c2 hlt]; simp [mid]
          · intro z hz
            rcases List.mem_append.mp hz with hz | hz
            · exact hle' z hz
            · simp only [List.mem_cons, List.not_mem_nil, or_false] at hz
              unfold mid at hz
              rcases hz with rfl | rfl <;> simp only <;> omega
          · rw [em, show trq x = x :: (tree x.1 (mid x.1 x.2) ++ tree (mid x.1 x.2 + 1) x.2) from tree_lt hlt]
            have q1 : (trq (mid x.1 x.2 + 1, x.2)).length = (tree (mid x.1 x.2 + 1) x.2).length := rfl
            have q2 : (trq (x.1, mid x.1 x.2)).length = (tree x.1 (mid x.1 x.2)).length := rfl
            simp
            omega
        · have c2 : ¬ (x.1 ≤ hi ∧ lo ≤ x.2) := by simpa using e
          refine ⟨s2, dn, r, _, _, _, _, _, rfl, hL2, hM2, rx2, ry2, ?_, hle', ?_⟩
          · rw [← hp1, cov_out cout c2]; simp
          · rw [em]; have := trq_pos x; omega
    · have hr0 : r = [] := by
        cases r with
        | nil => rfl
        | cons x r => exact absurd (by simp) e
      subst hr0
      have hp : dn = cov lo hi 0 (n - 1) := by simpa using hp
      rw [hp] at rx
      exact ⟨_, rfl, q L _ (s1.trans sE) fL ⟨xs, hL0, rx.mono (Same.tu sE)⟩⟩
end Bx

set_option Elab.async false
set_option linter.all false
set_option maxRecDepth 100000
set_option maxHeartbeats 1000000
/-! products, half_boxes, _law_half_boxes, box_cover. -/
namespace Bx
open PySem PySem.Spec PyProof.Rows L2
variable {P : Program} {w : World} {K : PySem.W.Frag} {mg : Str → Option Value} {base : Heap}
theorem prodR_snoc (rows : List (List (Int × Int))) (row : List (Int × Int)) : prodR (rows ++ [row]) = prodStep (prodR rows) row := by rw [← prod_fold0, List.foldl_append, prod_fold0]; rfl
theorem rowsN_app : ∀ xs ys : List (List (Int × Int)), rowsN (xs ++ ys) = rowsN xs * rowsN ys
  | [], ys => by simp [rowsN]
  | r :: xs, ys => by simp only [List.cons_append, rowsN, rowsN_app xs ys, Nat.mul_assoc]
theorem rowsN_pos : ∀ {rows : List (List (Int × Int))}, (∀ row ∈ rows, row ≠ []) → 0 < rowsN rows
  | [], _ => by simp [rowsN]
  | r :: rows, h => Nat.mul_pos (List.length_pos_iff.mpr (h r List.mem_cons_self)) (rowsN_pos fun q hq => h q (List.mem_cons_of_mem _ hq))
theorem prodR_take {rows : List (List (Int × Int))} (h : ∀ row ∈ rows, row ≠ []) (i : Nat) : (prodR (rows.take i)).length ≤ (prodR rows).length := by
  rw [prodR_count, prodR_count]
  have e := rowsN_app (rows.take i) (rows.drop i)
  rw [List.take_append_drop] at e
  rw [e]
  exact Nat.le_mul_of_pos_right _ (rowsN_pos fun r hr => h r (List.mem_of_mem_drop hr))
/-- what a comprehension has to show (the reading from the new list on) -/
def LcG (J : It) (g : TG) (tt : TT) (te : TE) (vs : List Nat) (σ : L2.St) (H1 : Hp) (D : Addr) (Qd : Hp → Prop) : Prop :=
  ∃ W : Nat → Nat → Hp → Prop, (∃ m, W 0 m (upd H1 D (.lst []))) ∧ ∀ i m H, W i m H →
    (J.stop i H ∧ Qd H) ∨ (J.go i H ∧ ∃ Nx : Hp → Prop, (∀ H', Nx H' → ∃ m', m' < m ∧ W (i + 1) m' H') ∧ ∀ x H', J.yld i H x H' → g x (wipe σ vs) H' fun σ2 H2 => wipe σ2 vs = wipe σ vs ∧ tt σ2 H2 fun b H3 =>
      if b = true then te σ2 H3 fun y H4 => ∃ acc, H4 D = some (.lst acc) ∧ acc.length < sizeLine ∧ Nx (upd H4 D (.lst (acc ++ [y]))) else Nx H3)
/-- [(low + (a,), high + (b,)) for a, b in row] -/
theorem row_lc {s0 s1 s2 s3 s6 s7 : Option V} {H1 : Hp} {D r x y : Addr} {b : Box} {row : List (Int × Int)} {Qd : Hp → Prop} (hD : H1 D = none) (hr : Ls H1 r (row.map qk)) (hx : PlAt H1 x b.1) (hy : PlAt H1 y b.2)
    (hl : b.1.length ≤ 3 ∧ b.2.length ≤ 3) (hz : row.length ≤ 1000) (k : ∀ H' zs, Same H1 H' → H' D = some (.lst zs) → Reps H' (row.map fun q => bxk (b.1 ++ [q.1], b.2 ++ [q.2])) zs → Qd H') :
    LcG (Itl K r) (gTup K 2 (gCons (gName 6) (gCons (gName 7) gNil))) tYes (tTup (tCons (tOp (rCatA K) (tVar 4) (tTup (tCons (tVar 6) tNil))) (tCons (tOp (rCatA K) (tVar 5) (tTup (tCons (tVar 7) tNil))) tNil))) [6, 7]
      [s0, s1, s2, s3, some (.ref x), some (.ref y), s6, s7] H1 D Qd := by
  obtain ⟨rv, hr, rr⟩ := hr
  refine lc_data row (fun q => bxk (b.1 ++ [q.1], b.2 ++ [q.2])) (walk_list (xs := rv)) (by rw [rr.length, List.length_map]) (small_le (by rw [rr.length, List.length_map]; omega)) hD (fun H' s => .inl (.inl (s _ _ hr))) (fun i q v H2 H3 hq s2 yy Qy kq => ?_) k
  obtain ⟨rfl, gv⟩ := yy
  obtain ⟨v', gv', rv'⟩ := rr.get (k := qk q) (by rw [List.getElem?_map, hq]; rfl)
  cases gv.symm.trans gv'
  obtain ⟨c, rfl, hc⟩ := rep_pl (rv'.mono (Same.tu s2))
  refine ⟨c, _, rfl, .inl (.inl hc), rfl, _, _, rfl, _, _, rfl, rfl, rfl, ?_⟩
  have hx2 := hx.tu (Same.tu s2)
  have hy2 := hy.tu (Same.tu s2)
  refine ⟨.ref x, rfl, .int q.1, rfl, small_le (by show 1 ≤ _; decide), fun t nt => ?_⟩
  have st := same_new (o := .tup [V.int q.1]) nt
  refine cat_pl (p := b.1) (q := [q.1]) (hx2.tu (Same.tu st)) (by unfold PlAt; rw [upd_same]; rfl) (by simp; omega) fun c1 H4 s4 h4 => ?_
  refine ⟨.ref y, rfl, .int q.2, rfl, small_le (by show 1 ≤ _; decide), fun t2 nt2 => ?_⟩
  have st2 := same_new (o := .tup [V.int q.2]) nt2
  refine cat_pl (p := b.2) (q := [q.2]) (((hy2.tu (Same.tu st)).tu (Same.tu s4)).tu (Same.tu st2)) (by unfold PlAt; rw [upd_same]; rfl) (by simp; omega) fun c2 H5 s5 h5 => ?_
  refine ⟨small_le (by show 2 ≤ _; decide), fun t3 nt3 => kq _ _ (((st.trans s4).trans (st2.trans s5)).trans (same_new nt3)) (BxAt.rep (b := (b.1 ++ [q.1], b.2 ++ [q.2])) ⟨c1, c2, upd_same, ?_, ?_⟩)⟩
  · exact ((h4.tu (Same.tu st2)).tu (Same.tu s5)).tu (Tu.new nt3)
  · exact h5.tu (Tu.new nt3)
def RowsAt (H : Hp) (a : Addr) (rows : List (List (Int × Int))) : Prop := ∃ xs, H a = some (.lst xs) ∧ Paired (fun row v => ∃ r, v = V.ref r ∧ Ls H r (row.map qk)) rows xs
def sp_products : Sp := fun vs H Q _ => ∃ (a : Addr) (rows : List (List (Int × Int))), vs = [.ref a] ∧ RowsAt H a rows ∧ (∀ row ∈ rows, row ≠ [] ∧ row.length ≤ 1000) ∧ rows.length ≤ 3 ∧ rowsN rows ≤ 1000 ∧ ∀ p H', Same H H' → H p = none → Ls H' p ((bsort (prodR rows)).map bxk) → Q (.ref p) H'
theorem start_box {H : Hp} {e1 e2 e3 L : Addr} (n1 : H e1 = none) (n2 : upd H e1 (.tup []) e2 = none) (n3 : upd (upd H e1 (.tup [])) e2 (.tup []) e3 = none) (nL : upd (upd (upd H e1 (.tup [])) e2 (.tup [])) e3 (.tup [V.ref e1, V.ref e2]) L = none) :
    Same H (upd (upd (upd (upd H e1 (.tup [])) e2 (.tup [])) e3 (.tup [V.ref e1, V.ref e2])) L (.lst [V.ref e3])) ∧ H L = none ∧ Reps (upd (upd (upd (upd H e1 (.tup [])) e2 (.tup [])) e3 (.tup [V.ref e1, V.ref e2])) L (.lst [V.ref e3])) ([(([], []) : Box)].map bxk) [V.ref e3] := by
  have a1 := same_new (o := .tup []) n1
  have a2 := same_new (o := .tup []) n2
  have a3 := same_new (o := .tup [V.ref e1, V.ref e2]) n3
  have a4 := same_new (o := .lst [V.ref e3]) nL
  refine ⟨a1.trans (a2.trans (a3.trans a4)), same_none (a1.trans (a2.trans a3)) nL, .cons (BxAt.rep (b := ([], [])) ⟨e1, e2, a4 _ _ upd_same, ?_, ?_⟩) .nil⟩
  · exact a4 _ _ (a3 _ _ (a2 _ _ upd_same))
  · exact a4 _ _ (a3 _ _ upd_same)
theorem c_products (T : Tx K mg) : Cal P w K mg base 1 "products" sp_products := by
  refine cal_of T.d_products sc_products (fun vs H Q E h => ?_) (fun f cdv A outer s H vs Q E hr h => ?_)
  · obtain ⟨_, _, rfl, _⟩ := h; rfl
  · obtain ⟨a, rows, rfl, ⟨rxs, ha, rp⟩, hrow, hl3, hN, q⟩ := h
    have hne : ∀ row ∈ rows, row ≠ [] := fun row h => (hrow row h).1
    refine ⟨_, (pss_cons (ps_set (i := 1) sc_products.nd rfl (Or.inl rfl) (pe_lst (pa_cons (pe_tup (pa_cons (pe_tup pa_nil) (pa_cons (pe_tup pa_nil) pa_nil))) pa_nil)))
      (pss_cons (ps_for PassesOwn.never rfl (pi_list (pv 0)) (pg_name (i := 2) sc_products.nd rfl (Or.inl rfl)) (pss_cons (ps_set (i := 3) sc_products.nd rfl (Or.inl rfl) (pe_lst pa_nil))
      (pss_cons (ps_for PassesOwn.never rfl (pi_list (pv 1)) (pg_tup rfl (pgs_cons (pg_name (i := 4) sc_products.nd rfl (Or.inr rfl)) (pgs_cons (pg_name (i := 5) sc_products.nd rfl (Or.inr rfl)) pgs_nil))) (pss_one (ps_expr (pe_bm PySem.F.plainAttrs_list PySem.F.slot_list_extend PySem.F.type_list_extend mt_extend (pv 3) (pa_cons (pe_lc (own := [("here", 6), ("there", 7)]) (g := (gTup K 2 (gCons (gName 6) (gCons (gName 7) gNil)))) (tt := tYes) rfl sc_products.nd (pi_list (pv 2)) (blkOk_by (N := ["rows", "found", "row", "longer", "low", "high", "here", "there"]) (sc := defScope s_products) (by decide +kernel)) (fun _ _ _ _ _ => (pg_tup rfl (pgs_cons (pg_name (i := 6) sc_products.nd rfl (Or.inl rfl)) (pgs_cons (pg_name (i := 7) sc_products.nd rfl (Or.inl rfl)) pgs_nil)))) (fun _ _ _ _ _ => pts_nil) (fun _ _ _ _ _ => (pe_tup (pa_cons (pe_op (op_catA : OpR _ (binaryOp .Add) (rCatA K)) (pv 4) (pe_tup (pa_cons (pv 6) pa_nil))) (pa_cons (pe_op (op_catA : OpR _ (binaryOp .Add) (rCatA K)) (pv 5) (pe_tup (pa_cons (pv 7) pa_nil))) pa_nil))))) pa_nil)))))
      (pss_one (ps_set (i := 1) sc_products.nd rfl (Or.inl rfl) (pv 3))))))
      (pss_one (ps_ret (pe_callB (cr_sortBx (hu16 hr)) (by rfl) T.z_sorted (by decide +kernel) (pa_cons (pv 1) pa_nil)))))), ?_⟩
    refine ⟨Nat.zero_le _, fun e1 n1 => ⟨Nat.zero_le _, fun e2 n2 => ⟨small_le (by show 2 ≤ _; decide), fun e3 n3 => ⟨small_le (by show 1 ≤ _; decide), fun L nL => ?_⟩⟩⟩⟩
    obtain ⟨s0, fL, r0⟩ := start_box n1 n2 n3 nL
    have lrx : rxs.length = rows.length := rp.length.symm
    refine ⟨.ref a, rfl, a, rfl, ⟨_, .inl (.inl (s0 _ _ ha))⟩, ?_⟩
    refine for_it (walk_list (xs := rxs)) (fun i σ H1 => Same H H1 ∧ ∃ (L : Addr) (y2 y3 y4 y5 y6 y7 : Option V), σ = [some (.ref a), some (.ref L), y2, y3, y4, y5, y6, y7] ∧ H L = none ∧ Ls H1 L ((prodR (rows.take i)).map bxk)) ⟨s0, L, none, none, none, none, none, none, rfl, fL, _, upd_same, r0⟩ (fun i σ H' _ h => .inl (.inl (h.1 _ _ ha))) (fun i v σ H1 H2 hi' h y => ?_) (fun σ H1 h => ?_)
    · obtain ⟨s1, L, y2, y3, y4, y5, y6, y7, rfl, fL, fs, hL, rL⟩ := h
      obtain ⟨rfl, gv⟩ := y
      have hi2 : i < rows.length := by omega
      have g := List.getElem?_eq_getElem hi2
      obtain ⟨v', gv', r, rfl, hrr⟩ := pr_get rp g
      have hrow' := hrow _ (List.mem_of_getElem? g)
      generalize rows[i] = row at g hrr hrow'
      cases gv.symm.trans gv'
      have hstep : prodR (rows.take (i + 1)) = prodStep (prodR (rows.take i)) row := by rw [List.take_add_one, g]; exact prodR_snoc _ _
      have hfull : (prodStep (prodR (rows.take i)) row).length ≤ 1000 := by rw [← hstep]; exact Nat.le_trans (prodR_take hne _) (by rw [prodR_count]; exact hN)
      refine ⟨Nat.zero_le _, fun M nM => ?_⟩
      have fM : H2 M = none := nM
      have sM : Same H2 (upd H2 M (.lst [])) := same_new nM
      refine ⟨.ref L, rfl, L, rfl, ⟨fs, .inl (.inl (sM _ _ hL))⟩, ?_⟩
      refine for_it (walk_list (xs := fs)) (fun j σ H3 => Same H2 H3 ∧ ∃ (y4 y5 y6 y7 : Option V), σ = [some (.ref a), some (.ref L), some (.ref r), some (.ref M), y4, y5, y6, y7] ∧ Ls H3 M ((prodStep ((prodR (rows.take i)).take j) row).map bxk))
        ⟨sM, y4, y5, y6, y7, rfl, [], upd_same, .nil⟩ (fun j σ H3 _ h => .inl (.inl (h.1 _ _ hL))) (fun j x σ H3 H4 hj h yj => ?_) (fun σ H3 h => ?_)
      · obtain ⟨s2, y4, y5, y6, y7, rfl, ms, hM, rM⟩ := h
        obtain ⟨rfl, gx⟩ := yj
        obtain ⟨k, gk, rk⟩ := rL.get' gx
        rw [List.getElem?_map] at gk
        obtain ⟨b, gb, rfl⟩ := Option.map_eq_some_iff.mp gk
        obtain ⟨c, rfl, x1, x2, hc, hx1, hx2⟩ := rep_bx (rk.mono (Same.tu s2))
        have hbl := prodR_len (List.mem_of_getElem? gb)
        rw [List.length_take] at hbl
        refine ⟨c, _, rfl, .inl (.inl hc), rfl, _, _, rfl, _, _, rfl, rfl, ?_⟩
        refine ⟨.ref M, rfl, .inl ⟨rfl, _, .inl (.inl hM)⟩, ?_⟩
        have hrr4 : Ls H4 r (row.map qk) := hrr.same (s1.trans s2)
        obtain ⟨rv, hrv, rrv⟩ := hrr4
        refine ⟨.ref r, rfl, r, rfl, ⟨_, .inl (.inl hrv)⟩, fun D hD => ?_⟩
        refine row_lc hD ⟨rv, hrv, rrv⟩ hx1 hx2 ⟨by omega, by omega⟩ hrow'.2 fun H5 zs s5 hD5 rz => ?_
        have hM5 := s5 _ _ hM
        have ej : prodStep ((prodR (rows.take i)).take (j + 1)) row = prodStep ((prodR (rows.take i)).take j) row ++ row.map fun q => (b.1 ++ [q.1], b.2 ++ [q.2]) := by
          rw [List.take_add_one, gb]
          simp [prodStep]
        have hlen : (prodStep ((prodR (rows.take i)).take (j + 1)) row).length ≤ 1000 := Nat.le_trans (flatMap_take _ _ _) hfull
        refine ⟨M, D, ms, zs, rfl, rfl, hM5, hD5, ?_, ?_⟩
        · rw [ej, List.length_append] at hlen
          rw [rM.length, rz.length, List.length_map, List.length_map]
          refine small_le ?_
          rw [List.length_map] at hlen
          omega
        · refine ⟨same_fresh fM (s2.trans s5), _, _, _, _, rfl, ms ++ zs, upd_same, ?_⟩
          rw [ej, List.map_append, List.map_map]
          exact Reps.append ((rM.mono (Same.tu s5)).mono (Tu.lst hM5)) (rz.mono (Tu.lst hM5))
      · obtain ⟨s2, y4, y5, y6, y7, rfl, ms, hM, rM⟩ := h
        rw [rL.length, List.length_map, List.take_length] at rM
        exact ⟨_, rfl, s1.trans s2, M, _, _, _, _, _, _, rfl, same_none s1 fM, ms, hM, by rw [hstep]; exact rM⟩
    · obtain ⟨s1, L, y2, y3, y4, y5, y6, y7, rfl, fL, fs, hL, rL⟩ := h
      rw [lrx, List.take_length] at rL
      have hb : ∀ b ∈ prodR rows, b.1.length = rows.length ∧ b.2.length = rows.length := fun b hb => prodR_len hb
      refine ⟨_, rfl, L, fs, prodR rows, rows.length, rfl, .inl (.inl hL), rL, hb, fun p ys bs' hpm hpw hrr np => ?_⟩
      rw [bsort_of (fun b h => (hb b h).1) hpm hpw] at hrr
      exact q p _ (s1.trans (same_new np)) (same_none s1 np) ⟨ys, upd_same, hrr.mono (Tu.new np)⟩

theorem pr_map {α β γ : Type} {F : α → γ → Prop} {G : β → γ → Prop} {g : α → β} {l : List α} {m : List γ} (h : Paired F l m) (k : ∀ a b, F a b → G (g a) b) : Paired G (l.map g) m := by
  induction h with
  | nil => exact .nil
  | cons h t ih => exact .cons (k _ _ h) ih
def sp_half_boxes : Sp := fun vs H Q _ => ∃ (a : Addr) (sd : List Int), vs = [.ref a] ∧ PlAt H a sd ∧ WS sd ∧ ∀ p H', Same H H' → H p = none → Ls H' p ((halfB sd).map bxk) → Q (.ref p) H'
theorem rows_ok {sd : List Int} (ws : WS sd) : (∀ row ∈ sd.map stRow, row ≠ [] ∧ row.length ≤ 1000) ∧ (sd.map stRow).length ≤ 3 ∧ rowsN (sd.map stRow) ≤ 1000 := by
  refine ⟨fun row h => ?_, by rw [List.length_map]; exact ws.len, by rw [hfN_rows ws.ps]; exact Nat.le_trans ws.hf (by decide)⟩
  obtain ⟨s, hs, rfl⟩ := List.mem_map.mp h
  have h1 := ws.ps s hs
  have h2 := ws.sm s hs
  have := stRow_len h1
  exact ⟨fun e => by rw [e] at this; simp at this, by omega⟩
theorem ls_off {H H' : Hp} {D r : Addr} {ks : List NestedKey} (h : ∃ acc, H D = some (.lst acc)) (o : Off (fun b => nowhere b ∨ b = D) H H') (hr : r ≠ D) (l : Ls H r ks) : Ls H' r ks := by
  obtain ⟨xs, e, rr⟩ := l
  exact ⟨xs, o r _ (fun z => z.elim (fun z => z) hr) e, rr.mono (tu_off h (fun _ z => z.elim) o)⟩
theorem c_half_boxes (T : Tx K mg) : Cal P w K mg base 3 "half_boxes" sp_half_boxes := by
  have C_products := c_products (P := P) (w := w) (base := base) T
  have C_stretches := c_stretches (P := P) (w := w) (base := base) T
  refine cal_of T.d_half_boxes sc_half_boxes (fun vs H Q E h => ?_) (fun f cdv A outer s H vs Q E hr h => ?_)
  · obtain ⟨_, _, rfl, _⟩ := h; rfl
  · obtain ⟨a, sd, rfl, ha, ws, q⟩ := h
    obtain ⟨k1, k2, k3⟩ := rows_ok ws
    refine ⟨_, (pss_one (ps_ret (pe_c C_products hr (by decide) (by rfl) (pa_cons (pe_lc (own := [("side", 1)]) (g := (gName 1)) (tt := tYes) rfl sc_half_boxes.nd (pi_tup (pv 0)) (blkOk_by (N := ["sides", "side"]) (sc := defScope s_half_boxes) (by decide +kernel)) (fun _ _ _ _ _ => (pg_name (i := 1) sc_half_boxes.nd rfl (Or.inl rfl))) (fun _ _ _ _ _ => pts_nil) (fun _ _ _ _ _ => (pe_c C_stretches hr (by decide) (by rfl) (pa_cons (pv 1) pa_nil)))) pa_nil)))), ?_⟩
    refine ⟨.ref a, rfl, a, rfl, ⟨_, .inl (.inl ha)⟩, fun D hD => ?_⟩
    refine lc_all sd (fun s H y => ∃ r, y = .ref r ∧ r ≠ D ∧ Ls H r ((stRow s).map qk)) (S := nowhere) (fun _ => True) (walk_tup (xs := sd.map V.int)) (by simp) (small_le (by rw [List.length_map]; have := ws.len; omega)) hD (fun z => z) trivial (fun _ _ _ _ => trivial) (fun H' o _ => .inl (.inl (o.same _ _ ha)))
      (fun s y H1 H2 _ hd o h => ?_) (fun i s x H1 H2 hs o _ hd y Qy k => ?_) (fun H1 ys o _ hd hp => ?_)
    · obtain ⟨r, rfl, hrD, l⟩ := h
      exact ⟨r, rfl, hrD, ls_off hd o hrD l⟩
    · obtain ⟨rfl, rfl⟩ := yat_map y hs
      have hm := List.mem_of_getElem? hs
      refine ⟨rfl, .int s, rfl, s, rfl, ws.ps s hm, ws.sm s hm, fun p H3 s3 fp l => k _ _ (same_off s3) trivial ⟨p, rfl, fun e => ?_, l⟩⟩
      subst e
      obtain ⟨acc, hd⟩ := hd
      rw [fp] at hd; cases hd
    · have hp' : Paired (fun row v => ∃ r, v = V.ref r ∧ Ls H1 r (row.map qk)) (sd.map stRow) ys := by
        exact pr_map hp fun s v ⟨r, e, _, l⟩ => ⟨r, e, l⟩
      exact ⟨D, sd.map stRow, rfl, ⟨ys, hd, hp'⟩, k1, k2, k3, fun p H2 s2 fp l => q p H2 (o.same.trans s2) (same_none o.same fp) l⟩

theorem covs_map : ∀ {sd : List Int} {lo hi : Pl}, OkB sd lo hi → covs sd lo hi = (sd.zip (lo.zip hi)).map fun t => cov t.2.1 t.2.2 0 (t.1 - 1)
  | [], [], [], _ => rfl
  | [], [], _ :: _, h => h.elim
  | [], _ :: _, _, h => h.elim
  | _ :: _, [], _, h => h.elim
  | _ :: _, _ :: _, [], h => h.elim
  | _ :: _, _ :: _, _ :: _, h => by simp only [covs, covs_map h.2, List.zip_cons_cons, List.map_cons]
theorem cov_ne {lo hi s : Int} (h1 : 0 ≤ lo) (h2 : lo ≤ hi) (h3 : hi < s) : cov lo hi 0 (s - 1) ≠ [] := fun e => by
  have := cov_all h1 h2 h3
  rw [e] at this
  have h4 : lo ∈ rg lo hi := mem_rg.mpr ⟨Int.le_refl _, h2⟩
  rw [← this] at h4; cases h4
theorem covs_ok : ∀ {sd : List Int} {lo hi : Pl}, Pos1 sd → (∀ x ∈ sd, x ≤ 120) → OkB sd lo hi → (∀ row ∈ covs sd lo hi, row ≠ [] ∧ row.length ≤ 1000) ∧ (covs sd lo hi).length = sd.length ∧ rowsN (covs sd lo hi) ≤ hfN sd
  | [], [], [], _, _, _ => ⟨fun _ h => (by cases h), rfl, Nat.le_refl _⟩
  | [], [], _ :: _, _, _, h => h.elim
  | [], _ :: _, _, _, _, h => h.elim
  | _ :: _, [], _, _, _, h => h.elim
  | _ :: _, _ :: _, [], _, _, h => h.elim
  | s :: sd, a :: lo, b :: hi, ps, sm, h => by
    obtain ⟨k1, k2, k3⟩ := covs_ok (fun x hx => ps x (List.mem_cons_of_mem _ hx)) (fun x hx => sm x (List.mem_cons_of_mem _ hx)) h.2
    have l := cov_len (lo := a) (hi := b) _ 0 (s - 1) rfl (by have := ps s List.mem_cons_self; omega)
    have hs := sm s List.mem_cons_self
    refine ⟨fun row hr => ?_, by simp [covs, k2], Nat.mul_le_mul (by omega) k3⟩
    rcases List.mem_cons.mp hr with rfl | hr
    · exact ⟨cov_ne h.1.1 h.1.2.1 h.1.2.2, by omega⟩
    · exact k1 row hr
def sp_box_cover : Sp := fun vs H Q _ => ∃ (a c : Addr) (sd : List Int) (b : Box), vs = [.ref a, .ref c] ∧ PlAt H a sd ∧ BxAt H c b ∧ WS sd ∧ OkB sd b.1 b.2 ∧ ∀ p H', Same H H' → H p = none → Ls H' p ((bcov sd b).map bxk) → Q (.ref p) H'
theorem c_box_cover (T : Tx K mg) : Cal P w K mg base 3 "box_cover" sp_box_cover := by
  have C_products := c_products (P := P) (w := w) (base := base) T
  have C_cover := c_cover (P := P) (w := w) (base := base) T
  refine cal_of T.d_box_cover sc_box_cover (fun vs H Q E h => ?_) (fun f cdv A outer s H vs Q E hr h => ?_)
  · obtain ⟨_, _, _, _, rfl, _⟩ := h; rfl
  · obtain ⟨a, c, sd, b, rfl, ha, ⟨x, y, hc, hx, hy⟩, ws, ok, q⟩ := h
    obtain ⟨k1, k2, k3⟩ := covs_ok ws.ps ws.sm ok
    have lz : (sd.zip (b.1.zip b.2)).length = sd.length := by rw [List.length_zip, List.length_zip, ok.len.1, ok.len.2, Nat.min_self, Nat.min_self]
    refine ⟨_, (pss_cons (ps_asg (pv 1) (pg_tup rfl (pgs_cons (pg_name (i := 2) sc_box_cover.nd rfl (Or.inr rfl)) (pgs_cons (pg_name (i := 3) sc_box_cover.nd rfl (Or.inr rfl)) pgs_nil))))
      (pss_one (ps_ret (pe_c C_products hr (by decide) (by rfl) (pa_cons (pe_lc (own := [("way", 4), ("side", 5)]) (g := (gTup K 2 (gCons (gName 4) (gCons (gName 5) gNil)))) (tt := tYes) rfl sc_box_cover.nd (pi_enumS (by rfl) T.z_enumerate (pa_cons (pv 0) pa_nil)) (blkOk_by (N := ["sides", "box", "low", "high", "way", "side"]) (sc := defScope s_box_cover) (by decide +kernel)) (fun _ _ _ _ _ => (pg_tup rfl (pgs_cons (pg_name (i := 4) sc_box_cover.nd rfl (Or.inl rfl)) (pgs_cons (pg_name (i := 5) sc_box_cover.nd rfl (Or.inl rfl)) pgs_nil)))) (fun _ _ _ _ _ => pts_nil) (fun _ _ _ _ _ => (pe_c C_cover hr (by decide) (by rfl) (pa_cons (pv 5) (pa_cons (pe_ix (ix_tup : IxR _ (rIxT K)) (pv 2) (pv 4) (fun _ _ => rfl)) (pa_cons (pe_ix (ix_tup : IxR _ (rIxT K)) (pv 3) (pv 4) (fun _ _ => rfl)) pa_nil)))))) pa_nil))))), ?_⟩
    refine ⟨.ref c, rfl, c, _, rfl, .inl (.inl hc), rfl, _, _, rfl, _, _, rfl, rfl, ?_⟩
    refine ⟨.ref a, rfl, (true, a, sd.map V.int), sd.length, rfl, src_pl ha, by simp, fun D hD => ?_⟩
    refine lc_all (sd.zip (b.1.zip b.2)) (fun t H y => ∃ r, y = .ref r ∧ r ≠ D ∧ Ls H r ((cov t.2.1 t.2.2 0 (t.1 - 1)).map qk)) (S := nowhere) (fun _ => True) walk_enumS lz (small_le (by have := ws.len; omega)) hD (fun z => z) trivial (fun _ _ _ _ => trivial) (fun H' o _ => src_pl (ha.tu (Same.tu o.same)))
      (fun s y H1 H2 _ hd o h => ?_) (fun i t v H1 H2 ht o _ hd yy Qy k => ?_) (fun H1 ys o _ hd hp => ?_)
    · obtain ⟨r, rfl, hrD, l⟩ := h
      exact ⟨r, rfl, hrD, ls_off hd o hrD l⟩
    · obtain ⟨g1, g2⟩ := zip_get ht
      obtain ⟨g2, g3⟩ := zip_get g2
      obtain ⟨T, sv, rfl, nT, rfl, gs⟩ := yy
      cases (get_int g1).symm.trans gs
      have hm := List.mem_of_getElem? g1
      have sT := same_new (o := .tup [V.int (i : Nat), V.int t.1]) nT
      have hx2 := (hx.tu (Same.tu o.same)).tu (Same.tu sT)
      have hy2 := (hy.tu (Same.tu o.same)).tu (Same.tu sT)
      refine ⟨T, _, rfl, .inl (.inl upd_same), rfl, _, _, rfl, _, _, rfl, rfl, rfl, ?_⟩
      refine ⟨.int t.1, rfl, .ref x, rfl, .int (i : Nat), rfl, x, _, (i : Nat), _, rfl, rfl, .inl (.inl hx2), atI_nat (get_int g2), .ref y, rfl, .int (i : Nat), rfl, y, _, (i : Nat), _, rfl, rfl, .inl (.inl hy2), atI_nat (get_int g3), ?_⟩
      refine ⟨t.1, t.2.1, t.2.2, rfl, ws.ps _ hm, ws.sm _ hm, fun p H3 s3 fp l => k _ _ (same_off (sT.trans s3)) trivial ⟨p, rfl, fun e => ?_, l⟩⟩
      subst e
      obtain ⟨acc, hd⟩ := hd
      rw [sT _ _ hd] at fp; cases fp
    · refine ⟨D, covs sd b.1 b.2, rfl, ⟨ys, hd, ?_⟩, k1, by rw [k2]; exact ws.len, Nat.le_trans k3 (Nat.le_trans ws.hf (by decide)), fun p H2 s2 fp l => q p H2 (o.same.trans s2) (same_none o.same fp) l⟩
      rw [covs_map ok]
      exact pr_map hp fun s v ⟨r, e, _, l⟩ => ⟨r, e, l⟩
end Bx

set_option Elab.async false
set_option linter.all false
set_option maxRecDepth 100000
set_option maxHeartbeats 1000000
/-! _law_half_boxes, told_of, cells_in, halves_of, parts_of, joined. -/
namespace Bx
open PySem PySem.Spec PyProof.Rows L2
variable {P : Program} {w : World} {K : PySem.W.Frag} {mg : Str → Option Value} {base : Heap}
theorem c__law_half_boxes (T : Tx K mg) : Cal P w K mg base 2 "_law_half_boxes" sp_half_boxes := by
  have C__law_stretches := c__law_stretches (P := P) (w := w) (base := base) T
  refine cal_of T.d__law_half_boxes sc__law_half_boxes (fun vs H Q E h => ?_) (fun f cdv A outer s H vs Q E hr h => ?_)
  · obtain ⟨_, _, rfl, _⟩ := h; rfl
  · obtain ⟨a, sd, rfl, ha, ws, q⟩ := h
    obtain ⟨hrow, hl3, hN⟩ := rows_ok ws
    have hne : ∀ row ∈ sd.map stRow, row ≠ [] := fun row h => (hrow row h).1
    refine ⟨_, (pss_cons (ps_set (i := 1) sc__law_half_boxes.nd rfl (Or.inl rfl) (pe_lst (pa_cons (pe_tup (pa_cons (pe_tup pa_nil) (pa_cons (pe_tup pa_nil) pa_nil))) pa_nil)))
      (pss_cons (ps_for PassesOwn.never rfl (pi_tup (pv 0)) (pg_name (i := 2) sc__law_half_boxes.nd rfl (Or.inl rfl)) (pss_cons (ps_set (i := 3) sc__law_half_boxes.nd rfl (Or.inl rfl) (pe_lst pa_nil))
      (pss_cons (ps_for PassesOwn.never rfl (pi_list (pv 1)) (pg_tup rfl (pgs_cons (pg_name (i := 4) sc__law_half_boxes.nd rfl (Or.inr rfl)) (pgs_cons (pg_name (i := 5) sc__law_half_boxes.nd rfl (Or.inr rfl)) pgs_nil))) (pss_one (ps_expr (pe_bm PySem.F.plainAttrs_list PySem.F.slot_list_extend PySem.F.type_list_extend mt_extend (pv 3) (pa_cons (pe_lc (own := [("_law_a", 6), ("_law_b", 7)]) (g := (gTup K 2 (gCons (gName 6) (gCons (gName 7) gNil)))) (tt := tYes) rfl sc__law_half_boxes.nd (pi_list (pe_c C__law_stretches hr (by decide) (by rfl) (pa_cons (pv 2) pa_nil))) (blkOk_by (N := ["_law_sides_here", "_law_found", "_law_side", "_law_longer", "_law_low", "_law_high", "_law_a", "_law_b"]) (sc := defScope s__law_half_boxes) (by decide +kernel)) (fun _ _ _ _ _ => (pg_tup rfl (pgs_cons (pg_name (i := 6) sc__law_half_boxes.nd rfl (Or.inl rfl)) (pgs_cons (pg_name (i := 7) sc__law_half_boxes.nd rfl (Or.inl rfl)) pgs_nil)))) (fun _ _ _ _ _ => pts_nil) (fun _ _ _ _ _ => (pe_tup (pa_cons (pe_op (op_catA : OpR _ (binaryOp .Add) (rCatA K)) (pv 4) (pe_tup (pa_cons (pv 6) pa_nil))) (pa_cons (pe_op (op_catA : OpR _ (binaryOp .Add) (rCatA K)) (pv 5) (pe_tup (pa_cons (pv 7) pa_nil))) pa_nil))))) pa_nil)))))
      (pss_one (ps_set (i := 1) sc__law_half_boxes.nd rfl (Or.inl rfl) (pv 3))))))
      (pss_one (ps_ret (pe_callB (cr_sortBx (hu16 hr)) (by rfl) T.z_sorted (by decide +kernel) (pa_cons (pv 1) pa_nil)))))), ?_⟩
    refine ⟨Nat.zero_le _, fun e1 n1 => ⟨Nat.zero_le _, fun e2 n2 => ⟨small_le (by show 2 ≤ _; decide), fun e3 n3 => ⟨small_le (by show 1 ≤ _; decide), fun L nL => ?_⟩⟩⟩⟩
    obtain ⟨s0, fL, r0⟩ := start_box n1 n2 n3 nL
    refine ⟨.ref a, rfl, a, rfl, ⟨_, .inl (.inl (s0 _ _ ha))⟩, ?_⟩
    refine for_it (walk_tup (xs := sd.map V.int)) (fun i σ H1 => Same H H1 ∧ ∃ (L : Addr) (y2 y3 y4 y5 y6 y7 : Option V), σ = [some (.ref a), some (.ref L), y2, y3, y4, y5, y6, y7] ∧ H L = none ∧ Ls H1 L ((prodR ((sd.map stRow).take i)).map bxk)) ⟨s0, L, none, none, none, none, none, none, rfl, fL, _, upd_same, r0⟩ (fun i σ H' _ h => .inl (.inl (h.1 _ _ ha))) (fun i v σ H1 H2 hi' h y => ?_) (fun σ H1 h => ?_)
    · obtain ⟨s1, L, y2, y3, y4, y5, y6, y7, rfl, fL, fs, hL, rL⟩ := h
      rw [List.length_map] at hi'
      have g := List.getElem?_eq_getElem hi'
      obtain ⟨rfl, rfl⟩ := yat_map y g
      have hm := List.mem_of_getElem? g
      generalize sd[i] = sx at g hm
      have hrow' := hrow _ (List.mem_map_of_mem (f := stRow) hm)
      have hstep : prodR ((sd.map stRow).take (i + 1)) = prodStep (prodR ((sd.map stRow).take i)) (stRow sx) := by
        rw [List.take_add_one, List.getElem?_map, g]; exact prodR_snoc _ _
      have hfull : (prodStep (prodR ((sd.map stRow).take i)) (stRow sx)).length ≤ 1000 := by rw [← hstep]; exact Nat.le_trans (prodR_take hne _) (by rw [prodR_count]; exact hN)
      refine ⟨Nat.zero_le _, fun M nM => ?_⟩
      have fM : H1 M = none := nM
      have sM : Same H1 (upd H1 M (.lst [])) := same_new nM
      refine ⟨.ref L, rfl, L, rfl, ⟨fs, .inl (.inl (sM _ _ hL))⟩, ?_⟩
      refine for_it (walk_list (xs := fs)) (fun j σ H3 => Same H1 H3 ∧ ∃ (y4 y5 y6 y7 : Option V), σ = [some (.ref a), some (.ref L), some (.int sx), some (.ref M), y4, y5, y6, y7] ∧ Ls H3 M ((prodStep ((prodR ((sd.map stRow).take i)).take j) (stRow sx)).map bxk))
        ⟨sM, y4, y5, y6, y7, rfl, [], upd_same, .nil⟩ (fun j σ H3 _ h => .inl (.inl (h.1 _ _ hL))) (fun j x σ H3 H4 hj h yj => ?_) (fun σ H3 h => ?_)
      · obtain ⟨s2, y4, y5, y6, y7, rfl, ms, hM, rM⟩ := h
        obtain ⟨rfl, gx⟩ := yj
        obtain ⟨k, gk, rk⟩ := rL.get' gx
        rw [List.getElem?_map] at gk
        obtain ⟨b, gb, rfl⟩ := Option.map_eq_some_iff.mp gk
        obtain ⟨c, rfl, x1, x2, hc, hx1, hx2⟩ := rep_bx (rk.mono (Same.tu s2))
        have hbl := prodR_len (List.mem_of_getElem? gb)
        rw [List.length_take, List.length_map] at hbl
        rw [List.length_map] at hl3
        refine ⟨c, _, rfl, .inl (.inl hc), rfl, _, _, rfl, _, _, rfl, rfl, ?_⟩
        refine ⟨.ref M, rfl, .inl ⟨rfl, _, .inl (.inl hM)⟩, ?_⟩
        refine ⟨.int sx, rfl, sx, rfl, ws.ps _ hm, ws.sm _ hm, fun r H5 s5 fr lr => ?_⟩
        obtain ⟨rv, hrv, rrv⟩ := lr
        refine ⟨r, rfl, ⟨_, .inl (.inl hrv)⟩, fun D hD => ?_⟩
        refine row_lc hD ⟨rv, hrv, rrv⟩ (hx1.tu (Same.tu s5)) (hx2.tu (Same.tu s5)) ⟨by omega, by omega⟩ hrow'.2 fun H6 zs s6 hD6 rz => ?_
        have s56 := s5.trans s6
        have hM6 := s56 _ _ hM
        have ej : prodStep ((prodR ((sd.map stRow).take i)).take (j + 1)) (stRow sx) = prodStep ((prodR ((sd.map stRow).take i)).take j) (stRow sx) ++ (stRow sx).map fun q => (b.1 ++ [q.1], b.2 ++ [q.2]) := by
          rw [List.take_add_one, gb]
          simp [prodStep]
        have hlen : (prodStep ((prodR ((sd.map stRow).take i)).take (j + 1)) (stRow sx)).length ≤ 1000 := Nat.le_trans (flatMap_take _ _ _) hfull
        refine ⟨M, D, ms, zs, rfl, rfl, hM6, hD6, ?_, ?_⟩
        · rw [ej, List.length_append] at hlen
          rw [rM.length, rz.length, List.length_map, List.length_map]
          refine small_le ?_
          rw [List.length_map] at hlen
          omega
        · refine ⟨same_fresh fM (s2.trans s56), _, _, _, _, rfl, ms ++ zs, upd_same, ?_⟩
          rw [ej, List.map_append, List.map_map]
          exact Reps.append ((rM.mono (Same.tu s56)).mono (Tu.lst hM6)) (rz.mono (Tu.lst hM6))
      · obtain ⟨s2, y4, y5, y6, y7, rfl, ms, hM, rM⟩ := h
        rw [rL.length, List.length_map, List.take_length] at rM
        exact ⟨_, rfl, s1.trans s2, M, _, _, _, _, _, _, rfl, same_none s1 fM, ms, hM, by rw [hstep]; exact rM⟩
    · obtain ⟨s1, L, y2, y3, y4, y5, y6, y7, rfl, fL, fs, hL, rL⟩ := h
      rw [List.take_of_length_le (by rw [List.length_map, List.length_map]; exact Nat.le_refl _)] at rL
      have hb : ∀ b ∈ prodR (sd.map stRow), b.1.length = (sd.map stRow).length ∧ b.2.length = (sd.map stRow).length := fun b hb => prodR_len hb
      refine ⟨_, rfl, L, fs, prodR (sd.map stRow), (sd.map stRow).length, rfl, .inl (.inl hL), rL, hb, fun p ys bs' hpm hpw hrr np => ?_⟩
      rw [bsort_of (fun b h => (hb b h).1) hpm hpw] at hrr
      exact q p _ (s1.trans (same_new np)) (same_none s1 np) ⟨ys, upd_same, hrr.mono (Tu.new np)⟩

def sp_told_of : Sp := fun vs H Q _ => ∃ (a : Addr) (ns : List Int), vs = [.ref a] ∧ H a = some (.lst (ns.map V.int)) ∧ ns ≠ [] ∧ ∀ c H', Same H H' → TrAt H' c (tri ns) → Q (.ref c) H'
theorem c_told_of (T : Tx K mg) : Cal P w K mg base 1 "told_of" sp_told_of := by
  refine cal_of T.d_told_of sc_told_of (fun vs H Q E h => ?_) (fun f cdv A outer s H vs Q E hr h => ?_)
  · obtain ⟨_, _, rfl, _⟩ := h; rfl
  · obtain ⟨a, ns, rfl, ha, hn, q⟩ := h
    have hl := List.length_pos_iff.mpr hn
    refine ⟨_, (pss_one (ps_ret (pe_tup (pa_cons (pe_callB (cr_sum rfl) (by rfl) T.z_sum (by decide +kernel) (pa_cons (pv 0) pa_nil)) (pa_cons (pe_callB (cr_min rfl) (by rfl) T.z_min (by decide +kernel) (pa_cons (pv 0) pa_nil)) (pa_cons (pe_callB (cr_max rfl) (by rfl) T.z_max (by decide +kernel) (pa_cons (pv 0) pa_nil)) pa_nil)))))), ?_⟩
    refine ⟨.ref a, rfl, a, ns, rfl, .inl (.inl ha), .ref a, rfl, a, ns, rfl, .inl (.inl ha), hl, fun m h1 h2 => ⟨.ref a, rfl, a, ns, rfl, .inl (.inl ha), hl, fun x h3 h4 => ⟨small_le (by show 3 ≤ _; decide), fun c nc => q c _ (same_new nc) ?_⟩⟩⟩
    unfold TrAt
    rw [upd_same, mnl_of h1 h2, mxl_of h3 h4]; rfl

def sp_cells_in : Sp := fun vs H Q _ => ∃ (a c : Addr) (sd : List Int) (f : Pl → Int) (b : Box), vs = [.ref a, .ref c] ∧ FdAt H a sd f ∧ BxAt H c b ∧ OkB sd b.1 b.2 ∧ ∀ p H', Same H H' → H p = none → H' p = some (.lst (((cells b).map f).map V.int)) → Q (.ref p) H'
theorem c_cells_in (T : Tx K mg) : Cal P w K mg base 4 "cells_in" sp_cells_in := by
  have C_is_box := c_is_box (P := P) (w := w) (base := base) T
  have C_places_between := c_places_between (P := P) (w := w) (base := base) T
  have C_cell_at := c_cell_at (P := P) (w := w) (base := base) T
  refine cal_of T.d_cells_in sc_cells_in (fun vs H Q E h => ?_) (fun f cdv A outer s H vs Q E hr h => ?_)
  · obtain ⟨_, _, _, _, _, rfl, _⟩ := h; rfl
  · obtain ⟨a, c, sd, g, b, rfl, hf, hb, ok, q⟩ := h
    obtain ⟨x, y, h1, h2, h3⟩ := hf.ex
    refine ⟨_, (pss_cons (ps_if (pt_not (pt_val (pe_c C_is_box hr (by decide) (by rfl) (pa_cons (pe_ix (ix_tup : IxR _ (rIxT K)) (pv 0) pe_int (fun _ _ => rfl)) (pa_cons (pv 1) pa_nil))))) (pss_one ps_never) pss_nil)
      (pss_one (ps_ret (pe_lc (own := [("place", 2)]) (g := (gName 2)) (tt := tYes) rfl sc_cells_in.nd (pi_list (pe_c C_places_between hr (by decide) (by rfl) (pa_cons (pe_ix (ix_tup : IxR _ (rIxT K)) (pv 1) pe_int (fun _ _ => rfl)) (pa_cons (pe_ix (ix_tup : IxR _ (rIxT K)) (pv 1) pe_int (fun _ _ => rfl)) pa_nil)))) (blkOk_by (N := ["field", "box", "place"]) (sc := defScope s_cells_in) (by decide +kernel)) (fun _ _ _ _ _ => (pg_name (i := 2) sc_cells_in.nd rfl (Or.inl rfl))) (fun _ _ _ _ _ => pts_nil) (fun _ _ _ _ _ => (pe_c C_cell_at hr (by decide) (by rfl) (pa_cons (pv 0) (pa_cons (pv 2) pa_nil)))))))), ?_⟩
    refine ⟨.ref a, rfl, a, _, 0, _, rfl, rfl, .inl (.inl h1), rfl, .ref c, rfl, x, c, sd, b, rfl, h2, hb, ok, hf.ws, fun H1 s1 => ⟨true, rfl, iteF ?_⟩⟩
    obtain ⟨lx, hx, hc, hlo, hhi⟩ := hb.tu (Same.tu s1)
    refine ⟨.ref c, rfl, c, _, 0, _, rfl, rfl, .inl (.inl hc), rfl, .ref c, rfl, c, _, 1, _, rfl, rfl, .inl (.inl hc), rfl, lx, hx, sd, b.1, b.2, rfl, hlo, hhi, hf.ws, ok, fun L H2 s2 fL l => ?_⟩
    obtain ⟨fs, hL, rL⟩ := l
    refine ⟨L, rfl, ⟨_, .inl (.inl hL)⟩, fun D hD => ?_⟩
    have hlen : (pb (b.1.zip b.2)).length ≤ 120 := Nat.le_trans (cells_le ok) hf.ws.n
    have hf2 := (hf.tu (Same.tu s1)).tu (Same.tu s2)
    refine lc_vals (cells b) (fun p => .int (g p)) (walk_list (xs := fs)) (by rw [rL.length, List.length_map]; rfl) (small_le (by rw [rL.length, List.length_map]; omega)) hD (fun H' s => .inl (.inl (s _ _ hL))) (fun i p v H3 H4 hp s3 yy Qy k => ?_) (fun H3 s3 hd => ?_)
    · obtain ⟨rfl, gv⟩ := yy
      obtain ⟨v', gv', rv'⟩ := rL.get (k := plc p) (by rw [List.getElem?_map]; unfold cells at hp; rw [hp]; rfl)
      cases gv.symm.trans gv'
      obtain ⟨e, rfl, he⟩ := rep_pl (rv'.mono (Same.tu s3))
      exact ⟨rfl, .ref a, rfl, .ref e, rfl, a, e, sd, g, p, rfl, hf2.tu (Same.tu s3), he, ((mem_cells ok).mp (List.mem_of_getElem? hp)).1, fun H5 s5 => k H5 s5⟩
    · exact q D H3 (s1.trans (s2.trans s3)) (same_none (s1.trans s2) hD) (by rw [hd, List.map_map]; rfl)

abbrev tabk (g : Box → Tri) (b : Box) : NestedKey := enk (b, g b)
def sp_halves_of : Sp := fun vs H Q _ => ∃ (a : Addr) (sd : List Int) (f : Pl → Int), vs = [.ref a] ∧ FdAt H a sd f ∧ ∀ p H', Same H H' → H p = none → Ls H' p ((halfB sd).map (tabk (TB f))) → Q (.ref p) H'
theorem c_halves_of (T : Tx K mg) : Cal P w K mg base 5 "halves_of" sp_halves_of := by
  have C_half_boxes := c_half_boxes (P := P) (w := w) (base := base) T
  have C_cells_in := c_cells_in (P := P) (w := w) (base := base) T
  have C_told_of := c_told_of (P := P) (w := w) (base := base) T
  refine cal_of T.d_halves_of sc_halves_of (fun vs H Q E h => ?_) (fun f cdv A outer s H vs Q E hr h => ?_)
  · obtain ⟨_, _, _, rfl, _⟩ := h; rfl
  · obtain ⟨a, sd, g, rfl, hf, q⟩ := h
    obtain ⟨x, y, h1, h2, h3⟩ := hf.ex
    refine ⟨_, (pss_one (ps_ret (pe_lc (own := [("box", 1)]) (g := (gName 1)) (tt := tYes) rfl sc_halves_of.nd (pi_list (pe_c C_half_boxes hr (by decide) (by rfl) (pa_cons (pe_ix (ix_tup : IxR _ (rIxT K)) (pv 0) pe_int (fun _ _ => rfl)) pa_nil))) (blkOk_by (N := ["field", "box"]) (sc := defScope s_halves_of) (by decide +kernel)) (fun _ _ _ _ _ => (pg_name (i := 1) sc_halves_of.nd rfl (Or.inl rfl))) (fun _ _ _ _ _ => pts_nil) (fun _ _ _ _ _ => (pe_tup (pa_cons (pv 1) (pa_cons (pe_c C_told_of hr (by decide) (by rfl) (pa_cons (pe_c C_cells_in hr (by decide) (by rfl) (pa_cons (pv 0) (pa_cons (pv 1) pa_nil))) pa_nil)) pa_nil))))))), ?_⟩
    refine ⟨.ref a, rfl, a, _, 0, _, rfl, rfl, .inl (.inl h1), rfl, x, sd, rfl, h2, hf.ws, fun L H1 s1 fL l => ?_⟩
    obtain ⟨fs, hL, rL⟩ := l
    have hlen : fs.length = (halfB sd).length := by rw [rL.length, List.length_map]
    have hlen2 := halfB_len hf.ws
    refine ⟨L, rfl, ⟨_, .inl (.inl hL)⟩, fun D hD => ?_⟩
    have hf1 := hf.tu (Same.tu s1)
    refine lc_data (halfB sd) (tabk (TB g)) (walk_list (xs := fs)) hlen.symm (small_le (by omega)) hD (fun H' s => .inl (.inl (s _ _ hL))) (fun i b v H3 H4 hb s3 yy Qy k => ?_) (fun H3 zs s3 hd rz => ?_)
    · obtain ⟨rfl, gv⟩ := yy
      obtain ⟨v', gv', rv'⟩ := rL.get (k := bxk b) (by rw [List.getElem?_map, hb]; rfl)
      cases gv.symm.trans gv'
      obtain ⟨c, rfl, hc⟩ := rep_bx (rv'.mono (Same.tu s3))
      have ok := (mem_halfB.mp (List.mem_of_getElem? hb)).ok hf.ws.ps
      refine ⟨rfl, .ref c, rfl, .ref a, rfl, .ref c, rfl, a, c, sd, g, b, rfl, hf1.tu (Same.tu s3), hc, ok, fun p H5 s5 fp hp => ?_⟩
      refine ⟨p, (cells b).map g, rfl, hp, by simpa using cells_ne ok, fun t H6 s6 ht => ⟨small_le (by show 2 ≤ _; decide), fun e ne => ?_⟩⟩
      refine k _ _ ((s5.trans s6).trans (same_new ne)) ⟨e, _, rfl, upd_same, .cons (BxAt.rep (((hc.tu (Same.tu s5)).tu (Same.tu s6)).tu (Tu.new ne))) (.cons (ht.tu (Tu.new ne)).rep .nil)⟩
    · exact q D H3 (s1.trans s3) (same_none s1 hD) ⟨zs, hd, rz⟩

theorem cut_to (p : Pl) (k : Nat) : cutV (p.map V.int) none (some (k : Int)) = (p.take k).map V.int := by
  unfold cutV
  rw [HT.sIx_none, HT.sIx_nat, List.drop_zero, Nat.sub_zero, List.map_take, List.length_map]
  by_cases h : k ≤ p.length
  · rw [Nat.min_eq_left h]
  · rw [Nat.min_eq_right (by omega), List.take_of_length_le (by rw [List.length_map]; exact Nat.le_refl _), List.take_of_length_le (by rw [List.length_map]; omega)]
theorem cut_from (p : Pl) (k : Nat) : cutV (p.map V.int) (some (k : Int)) none = (p.drop k).map V.int := by
  unfold cutV
  rw [HT.sIx_none, HT.sIx_nat, List.map_drop, List.length_map]
  by_cases h : k ≤ p.length
  · rw [Nat.min_eq_left h, List.take_of_length_le (by rw [List.length_drop, List.length_map]; exact Nat.le_refl _)]
  · rw [Nat.min_eq_right (by omega), List.drop_eq_nil_of_le (as := p.map V.int) (i := p.length) (by rw [List.length_map]; exact Nat.le_refl _), List.drop_eq_nil_of_le (by rw [List.length_map]; omega)]; simp
theorem slice_pl {H : Hp} {a : Addr} {p r : Pl} {lo hi : Option Int} {Q : VK} (ha : PlAt H a p) (e : cutV (p.map V.int) lo hi = r.map V.int) (k : ∀ c H', Same H H' → PlAt H' c r → Q (.ref c) H') : rSlA K (.ref a) lo hi H Q := by
  refine ⟨a, p.map V.int, rfl, .inl (.inl ha), fun h => k a H (Same.refl H) ?_, fun _ c nc => k c _ (same_new nc) ?_⟩
  · unfold cutV at e
    rw [h.1, h.2, List.drop_zero, Nat.sub_zero, List.take_length] at e
    unfold PlAt; rw [← e]; exact ha
  · unfold PlAt; rw [upd_same, e]
def sp_parts_of : Sp := fun vs H Q _ => ∃ (c : Addr) (b : Box) (k : Nat) (x y : Int), vs = [.ref c, .int (k : Int)] ∧ BxAt H c b ∧ Way b k x y ∧ b.1.length ≤ 3 ∧ b.2.length ≤ 3 ∧
  ∀ t u v H', Same H H' → H' t = some (.tup [.ref u, .ref v]) → BxAt H' u (p1 b k (mid x y)) → BxAt H' v (p2 b k (mid x y)) → Q (.ref t) H'
theorem set_cut {p : Pl} {k : Nat} {x m : Int} (h : p[k]? = some x) : p.take k ++ [m] ++ p.drop (k + 1) = p.set k m := by
  rw [List.set_eq_take_append_cons_drop, if_pos (List.getElem?_eq_some_iff.mp h).1]; simp
theorem c_parts_of (T : Tx K mg) : Cal P w K mg base 2 "parts_of" sp_parts_of := by
  have C_halved := c_halved (P := P) (w := w) (base := base) T
  refine cal_of T.d_parts_of sc_parts_of (fun vs H Q E h => ?_) (fun f cdv A outer s H vs Q E hr h => ?_)
  · obtain ⟨_, _, _, _, _, rfl, _⟩ := h; rfl
  · obtain ⟨c, b, k, x, y, rfl, ⟨lx, hx, hc, hlo, hhi⟩, wy, l1, l2, q⟩ := h
    refine ⟨_, (pss_cons (ps_asg (pv 0) (pg_tup rfl (pgs_cons (pg_name (i := 2) sc_parts_of.nd rfl (Or.inl rfl)) (pgs_cons (pg_name (i := 3) sc_parts_of.nd rfl (Or.inl rfl)) pgs_nil))))
      (pss_cons (ps_set (i := 4) sc_parts_of.nd rfl (Or.inl rfl) (pe_c C_halved hr (by decide) (by rfl) (pa_cons (pe_ix (ix_tup : IxR _ (rIxT K)) (pv 2) (pv 1) (fun _ _ => rfl)) (pa_cons (pe_ix (ix_tup : IxR _ (rIxT K)) (pv 3) (pv 1) (fun _ _ => rfl)) pa_nil))))
      (pss_cons (ps_set (i := 5) sc_parts_of.nd rfl (Or.inl rfl) (pe_tup (pa_cons (pv 2) (pa_cons (pe_op (op_catA : OpR _ (binaryOp .Add) (rCatA K)) (pe_op (op_catA : OpR _ (binaryOp .Add) (rCatA K)) (pe_slice (sl_tupA : SlR _ (rSlA K)) (pv 3) po_none (po_some (pv 1))) (pe_tup (pa_cons (pv 4) pa_nil))) (pe_slice (sl_tupA : SlR _ (rSlA K)) (pv 3) (po_some (pe_op op_add (pv 1) pe_int)) po_none)) pa_nil))))
      (pss_one (ps_ret (pe_tup (pa_cons (pv 5) (pa_cons (pe_tup (pa_cons (pe_op (op_catA : OpR _ (binaryOp .Add) (rCatA K)) (pe_op (op_catA : OpR _ (binaryOp .Add) (rCatA K)) (pe_slice (sl_tupA : SlR _ (rSlA K)) (pv 2) po_none (po_some (pv 1))) (pe_tup (pa_cons (pe_op op_add (pv 4) pe_int) pa_nil))) (pe_slice (sl_tupA : SlR _ (rSlA K)) (pv 2) (po_some (pe_op op_add (pv 1) pe_int)) po_none)) (pa_cons (pv 3) pa_nil))) pa_nil)))))))), ?_⟩
    refine ⟨.ref c, rfl, c, _, rfl, .inl (.inl hc), rfl, _, _, rfl, _, _, rfl, rfl, ?_⟩
    refine ⟨.ref lx, rfl, .int (k : Int), rfl, lx, _, (k : Int), _, rfl, rfl, .inl (.inl hlo), atI_nat (get_int wy.lo), .ref hx, rfl, .int (k : Int), rfl, hx, _, (k : Int), _, rfl, rfl, .inl (.inl hhi), atI_nat (get_int wy.hi), x, y, rfl, ?_⟩
    -- the first part: the high corner drawn in
    refine ⟨.ref lx, rfl, .ref hx, rfl, .int (k : Int), rfl, (k : Int), rfl, slice_pl hhi (cut_to _ _) fun a1 H1 s1 e1 => ?_⟩
    refine ⟨.int (mid x y), rfl, small_le (by show 1 ≤ _; decide), fun t1 n1 => ?_⟩
    have st1 := same_new (o := .tup [V.int (mid x y)]) n1
    refine cat_pl (p := b.2.take k) (q := [mid x y]) (e1.tu (Same.tu st1)) (by unfold PlAt; rw [upd_same]; rfl) (by simp; omega) fun a2 H2 s2 e2 => ?_
    have s02 := (s1.trans st1).trans s2
    refine ⟨.ref hx, rfl, .int (k : Int), rfl, (k : Int), 1, rfl, rfl, ((k + 1 : Nat) : Int), rfl, ?_⟩
    unfold tNoPart
    refine slice_pl (hhi.tu (Same.tu s02)) (cut_from b.2 (k + 1)) fun a3 H3 s3 e3 => ?_
    refine cat_pl (p := b.2.take k ++ [mid x y]) (q := b.2.drop (k + 1)) (e2.tu (Same.tu s3)) e3 (by simp; omega) fun a4 H4 s4 e4 => ?_
    rw [set_cut wy.hi] at e4
    refine ⟨small_le (by show 2 ≤ _; decide), fun u nu => ?_⟩
    have su := same_new (o := .tup [V.ref lx, V.ref a4]) nu
    have s05 := ((s02.trans s3).trans s4).trans su
    -- the second part: the low corner drawn in
    refine ⟨.ref u, rfl, .ref lx, rfl, .int (k : Int), rfl, (k : Int), rfl, slice_pl (hlo.tu (Same.tu s05)) (cut_to _ _) fun b1 H5 s5 f1 => ?_⟩
    refine ⟨.int (mid x y), rfl, mid x y, 1, rfl, rfl, small_le (by show 1 ≤ _; decide), fun t2 n2 => ?_⟩
    have st2 := same_new (o := .tup [V.int (mid x y + 1)]) n2
    refine cat_pl (p := b.1.take k) (q := [mid x y + 1]) (f1.tu (Same.tu st2)) (by unfold PlAt; rw [upd_same]; rfl) (by simp; omega) fun b2 H6 s6 f2 => ?_
    have s56 := (s5.trans st2).trans s6
    refine ⟨.ref lx, rfl, .int (k : Int), rfl, (k : Int), 1, rfl, rfl, ((k + 1 : Nat) : Int), rfl, ?_⟩
    try unfold tNoPart
    refine slice_pl ((hlo.tu (Same.tu s05)).tu (Same.tu s56)) (cut_from b.1 (k + 1)) fun b3 H7 s7 f3 => ?_
    refine cat_pl (p := b.1.take k ++ [mid x y + 1]) (q := b.1.drop (k + 1)) (f2.tu (Same.tu s7)) f3 (by simp; omega) fun b4 H8 s8 f4 => ?_
    rw [set_cut wy.lo] at f4
    have s58 := (s56.trans s7).trans s8
    refine ⟨.ref hx, rfl, small_le (by show 2 ≤ _; decide), fun v nv => ?_⟩
    have sv := same_new (o := .tup [V.ref b4, V.ref hx]) nv
    refine ⟨small_le (by show 2 ≤ _; decide), fun t nt => ?_⟩
    have st := same_new (o := .tup [V.ref u, V.ref v]) nt
    have sU := (s58.trans sv).trans st
    refine q t u v _ (s05.trans sU) upd_same ⟨lx, a4, sU _ _ upd_same, hlo.tu (Same.tu (s05.trans sU)), (e4.tu (Same.tu su)).tu (Same.tu sU)⟩ ⟨b4, hx, st _ _ upd_same, (f4.tu (Same.tu sv)).tu (Same.tu st), hhi.tu (Same.tu (s05.trans sU))⟩

def sp_joined : Sp := fun vs H Q _ => ∃ (a b : Addr) (t u : Tri), vs = [.ref a, .ref b] ∧ TrAt H a t ∧ TrAt H b u ∧ ∀ c H', Same H H' → TrAt H' c (joinT t u) → Q (.ref c) H'
theorem c_joined (T : Tx K mg) : Cal P w K mg base 1 "joined" sp_joined := by
  refine cal_of T.d_joined sc_joined (fun vs H Q E h => ?_) (fun f cdv A outer s H vs Q E hr h => ?_)
  · obtain ⟨_, _, _, _, rfl, _⟩ := h; rfl
  · obtain ⟨a, b, t, u, rfl, ha, hb, q⟩ := h
    refine ⟨_, (pss_one (ps_ret (pe_tup (pa_cons (pe_op op_add (pe_ix (ix_tup : IxR _ (rIxT K)) (pv 0) pe_int (fun _ _ => rfl)) (pe_ix (ix_tup : IxR _ (rIxT K)) (pv 1) pe_int (fun _ _ => rfl))) (pa_cons (pe_callB (call_min2 rfl) (by rfl) T.z_min (by decide +kernel) (pa_cons (pe_ix (ix_tup : IxR _ (rIxT K)) (pv 0) pe_int (fun _ _ => rfl)) (pa_cons (pe_ix (ix_tup : IxR _ (rIxT K)) (pv 1) pe_int (fun _ _ => rfl)) pa_nil))) (pa_cons (pe_callB (call_max2 rfl) (by rfl) T.z_max (by decide +kernel) (pa_cons (pe_ix (ix_tup : IxR _ (rIxT K)) (pv 0) pe_int (fun _ _ => rfl)) (pa_cons (pe_ix (ix_tup : IxR _ (rIxT K)) (pv 1) pe_int (fun _ _ => rfl)) pa_nil))) pa_nil)))))), ?_⟩
    refine ⟨.ref a, rfl, a, _, 0, _, rfl, rfl, .inl (.inl ha), rfl, .ref b, rfl, b, _, 0, _, rfl, rfl, .inl (.inl hb), rfl, t.1, u.1, rfl, rfl, ?_⟩
    refine ⟨.ref a, rfl, a, _, 1, _, rfl, rfl, .inl (.inl ha), rfl, .ref b, rfl, b, _, 1, _, rfl, rfl, .inl (.inl hb), rfl, t.2.1, u.2.1, rfl, ?_⟩
    refine ⟨.ref a, rfl, a, _, 2, _, rfl, rfl, .inl (.inl ha), rfl, .ref b, rfl, b, _, 2, _, rfl, rfl, .inl (.inl hb), rfl, t.2.2, u.2.2, rfl, ?_⟩
    exact ⟨small_le (by show 3 ≤ _; decide), fun c nc => q c _ (same_new nc) upd_same⟩
end Bx

set_option Elab.async false
set_option linter.all false
set_option maxRecDepth 100000
set_option maxHeartbeats 1000000
/-! tables as dicts; is_entry, stands_right, has_place, put_together, cells_many. -/
namespace Bx
open PySem PySem.Spec PyProof.Rows L2
variable {P : Program} {w : World} {K : PySem.W.Frag} {mg : Str → Option Value} {base : Heap}
theorem walk_range0 {n : Nat} : Walk (Itr 0 n) n (fun _ => True) (YFn fun i => .int ((i : Nat) : Int)) :=
  walk_range.mono (fun _ h => h) fun i H x H' _ _ y => ⟨y.1, y.2.trans (congrArg V.int (Int.zero_add _))⟩
theorem bxk_depth (b : Box) : (bxk b).depth ≤ 2 := by
  show NestedKey.depthAll [plc b.1, plc b.2] + 1 ≤ 2
  have : NestedKey.depthAll [plc b.1, plc b.2] ≤ 1 := depthAll_le fun k hk => by
    simp only [List.mem_cons, List.not_mem_nil, or_false] at hk
    rcases hk with rfl | rfl <;> exact plc_depth _
  omega
theorem trk_depth (t : Tri) : (trk t).depth ≤ 1 := by
  show NestedKey.depthAll [.num t.1, .num t.2.1, .num t.2.2] + 1 ≤ 1
  have : NestedKey.depthAll [.num t.1, .num t.2.1, .num t.2.2] ≤ 0 := depthAll_le fun k hk => by
    simp only [List.mem_cons, List.not_mem_nil, or_false] at hk
    rcases hk with rfl | rfl | rfl <;> exact Nat.le_refl _
  omega
theorem trk_inj {t u : Tri} (h : trk t = trk u) : t = u := by
  have h1 := NestedKey.tup.inj h
  simp only [List.cons.injEq, NestedKey.num.injEq, and_true] at h1
  exact Prod.ext h1.1 (Prod.ext h1.2.1 h1.2.2)
/-- the table as a dict -/
def TD (P : Program) (w : World) (H : Hp) (d : Addr) (bs : List Box) (g : Box → Tri) : Prop :=
  ∃ es, Dn P w H d es ∧ es.map (·.1) = bs.map bxk ∧ ∀ b ∈ bs, ∀ v, valV (kv es) (bxk b) = some v → Rep H (trk (g b)) v
theorem TD.same {H H' : Hp} {d : Addr} {bs : List Box} {g : Box → Tri} (t : TD P w H d bs g) (s : Same H H') : TD P w H' d bs g := by
  obtain ⟨es, D, e, r⟩ := t
  exact ⟨es, D.same s, e, fun b hb v hv => (r b hb v hv).mono (Same.tu s)⟩
theorem valV_there {es : List Ent} {k : NestedKey} (h : k ∈ es.map (·.1)) : ∃ v, valV (kv es) k = some v := by
  induction es with
  | nil => cases h
  | cons e es ih =>
    by_cases q : e.1 = k
    · exact ⟨e.2.2, valV_pos (p := (e.1, e.2.2)) q⟩
    · rw [List.map_cons, List.mem_cons] at h
      rcases h with h | h
      · exact absurd h.symm q
      · obtain ⟨v, hv⟩ := ih h
        exact ⟨v, (valV_neg (p := (e.1, e.2.2)) q).trans hv⟩
theorem TD.get {H : Hp} {d : Addr} {bs : List Box} {g : Box → Tri} (t : TD P w H d bs g) {b : Box} (hb : b ∈ bs) : ∃ es c, Dn P w H d es ∧ valV (kv es) (bxk b) = some (.ref c) ∧ TrAt H c (g b) := by
  obtain ⟨es, D, e, r⟩ := t
  obtain ⟨v, hv⟩ := valV_there (k := bxk b) (by rw [e]; exact List.mem_map_of_mem hb)
  obtain ⟨c, rfl, hc⟩ := rep_tr (r b hb v hv)
  exact ⟨es, c, D, hv, hc⟩
/-- known[box], the reading -/
theorem TD.ix {H : Hp} {d c : Addr} {bs : List Box} {g : Box → Tri} {b : Box} {Q : VK} (t : TD P w H d bs g) (hb : b ∈ bs) (hc : BxAt H c b) (k : ∀ c', TrAt H c' (g b) → Q (.ref c') H) : rIxN P w (.ref d) (.ref c) H Q := by
  obtain ⟨es, c', D, hv, hc'⟩ := t.get hb
  exact ⟨d, es, bxk b, c, .ref c', rfl, rfl, D, hc.rep, Nat.le_trans (bxk_depth b) (by decide), hv, k c' hc'⟩
theorem putE_keys_eq {es : List Ent} {k : NestedKey} {a : Addr} {v : V} (h : k ∈ es.map (·.1)) : (putE es k a v).map (·.1) = es.map (·.1) := by
  obtain ⟨u, hu⟩ := valV_there h
  unfold putE
  rw [if_pos (by rw [hu]; rfl), List.map_map]
  congr 1
  funext x
  show (if x.1 = k then (x.1, x.2.1, v) else x).1 = x.1
  split <;> rfl
/-- known[box] = told, the reading -/
theorem TD.put {H : Hp} {d c u : Addr} {bs : List Box} {g : Box → Tri} {b : Box} {t : Tri} {Q : Hp → Prop} (td : TD P w H d bs g) (hb : b ∈ bs) (hc : BxAt H c b) (hu : TrAt H u t) (hl : bs.length < 100000)
    (k : ∀ H', (∀ x o, x ≠ d → H x = some o → H' x = some o) → Tu H H' → TD P w H' d bs (setB g b t) → Q H') : rPutN P w (.ref d) (.ref c) (.ref u) H Q := by
  obtain ⟨es, D, e, r⟩ := td
  have hle : es.length = bs.length := by
    have := congrArg List.length e
    rw [List.length_map, List.length_map] at this; exact this
  refine ⟨d, es, bxk b, c, rfl, rfl, D, hc.rep, Nat.le_trans (bxk_depth b) (by decide), by omega, fun D' => ?_⟩
  have tu : Tu H (upd H d (DnO P w d (putE es (bxk b) c (.ref u)))) := Tu.ext D.here
  refine k _ (fun x o hx e => by rw [upd_ne hx]; exact e) tu ⟨_, D', ?_, fun b' hb' v hv => ?_⟩
  · rw [putE_keys_eq (by rw [e]; exact List.mem_map_of_mem hb)]; exact e
  · rw [kv_put, valV_put] at hv
    unfold setB
    by_cases hbb : b' = b
    · subst hbb
      rw [if_pos rfl] at hv ⊢
      cases hv
      exact (hu.tu tu).rep
    · rw [if_neg (fun z => hbb (bxk_inj z))] at hv
      rw [if_neg hbb]
      exact (r b' hb' v hv).mono tu
/-- dict(table) -/
theorem pairs_ents {H : Hp} {g : Box → Tri} : ∀ {bs : List Box} {ys : List V}, Reps H (bs.map (tabk g)) ys → ∃ es : List Ent, Paired (IsEnt H) ys es ∧ es.map (·.1) = bs.map bxk ∧ (∀ x ∈ es, Rep H x.1 (.ref x.2.1) ∧ x.1.depth ≤ 8) ∧ Paired (fun b (x : Ent) => Rep H (trk (g b)) x.2.2) bs es
  | [], _, h => ⟨[], by rw [show _ = _ from h]; exact .nil, rfl, fun _ h => (by cases h), .nil⟩
  | b :: bs, _, ⟨y, r, e, h, hr⟩ => by
    obtain ⟨es, h1, h2, h3, h4⟩ := pairs_ents hr
    obtain ⟨a, x, z, rfl, ha, hx, hz⟩ := rep_en h
    rw [e]
    refine ⟨(bxk b, x, .ref z) :: es, .cons ⟨a, rfl, ha⟩ h1, by rw [List.map_cons, List.map_cons, h2], fun q hq => ?_, .cons hz.rep h4⟩
    rcases List.mem_cons.mp hq with rfl | hq
    · exact ⟨hx.rep, Nat.le_trans (bxk_depth b) (by decide)⟩
    · exact h3 q hq
theorem ents_val {H : Hp} {g : Box → Tri} : ∀ {bs : List Box} {es : List Ent}, es.map (·.1) = bs.map bxk → bs.Nodup → Paired (fun b (x : Ent) => Rep H (trk (g b)) x.2.2) bs es → ∀ b ∈ bs, ∀ v, valV (kv es) (bxk b) = some v → Rep H (trk (g b)) v
  | [], [], _, _, .nil, b, hb, _, _ => by cases hb
  | c :: bs, e :: es, h, nd, .cons hr rest, b, hb, v, hv => by
    rw [List.map_cons, List.map_cons, List.cons.injEq] at h
    rw [List.nodup_cons] at nd
    by_cases q : e.1 = bxk b
    · rw [show valV (kv (e :: es)) (bxk b) = some e.2.2 from valV_pos (p := (e.1, e.2.2)) q] at hv
      cases hv
      have : c = b := bxk_inj (h.1.symm.trans q)
      subst this; exact hr
    · rw [show valV (kv (e :: es)) (bxk b) = valV (kv es) (bxk b) from valV_neg (p := (e.1, e.2.2)) q] at hv
      rcases List.mem_cons.mp hb with rfl | hb
      · exact absurd h.1 q
      · exact ents_val h.2 nd.2 rest b hb v hv
theorem nodup_map {α β : Type} {f : α → β} (inj : ∀ {a b}, f a = f b → a = b) {l : List α} (h : l.Nodup) : (l.map f).Nodup :=
  List.pairwise_map.mpr (h.imp fun n e => n (inj e))
theorem dict_pre {H : Hp} {t : Addr} {bs : List Box} {g : Box → Tri} (l : Ls H t (bs.map (tabk g))) (nd : bs.Nodup) (hl : bs.length ≤ 1000) : ∃ ys es, H t = some (.lst ys) ∧ Paired (IsEnt H) ys es ∧ DnC H es ∧
    ∀ d, H d = none → Dn P w (upd H d (DnO P w d es)) d es → TD P w (upd H d (DnO P w d es)) d bs g := by
  obtain ⟨ys, ht, r⟩ := l
  obtain ⟨es, h1, h2, h3, h4⟩ := pairs_ents r
  have hle : es.length = bs.length := by
    have := congrArg List.length h2
    rw [List.length_map, List.length_map] at this; exact this
  exact ⟨ys, es, ht, h1, ⟨h3, by rw [h2]; exact nodup_map bxk_inj nd, by omega⟩, fun d nd' D => ⟨es, D, h2, fun b hb v hv => (ents_val h2 nd h4 b hb v hv).mono (Tu.new nd')⟩⟩
def sp_is_entry : Sp := fun vs H Q _ => ∃ (a x y : Addr) (t : Tri), vs = [.ref a] ∧ H a = some (.tup [.ref x, .ref y]) ∧ TrAt H y t ∧ ∀ H', Same H H' → Q (.bl true) H'
theorem c_is_entry (T : Tx K mg) : Cal P w K mg base 2 "is_entry" sp_is_entry := by
  have C_is_whole := c_is_whole (P := P) (w := w) (base := base) T
  refine cal_of T.d_is_entry sc_is_entry (fun vs H Q E h => ?_) (fun f cdv A outer s H vs Q E hr h => ?_)
  · obtain ⟨_, _, _, _, rfl, _⟩ := h; rfl
  · obtain ⟨a, x, y, t, rfl, ha, hy, q⟩ := h
    refine ⟨_, (pss_cons (ps_if (PW.pt (pw_or (pt_not (pt_val (pe_callB call_isi (by rfl) T.z_isinstance (by decide +kernel) (pa_cons (pv 0) (pa_cons (pe_bltn (v := .ty "tuple") rfl T.z_tuple (by decide +kernel) rfl) pa_nil))))) (pw_or (pt_cmpR op_ne (pe_callB call_len_seq (by rfl) T.z_len PySem.boot_len (pa_cons (pv 0) pa_nil)) pe_int (nomark _)) (pw_or (pt_not (pt_val (pe_callB call_isi (by rfl) T.z_isinstance (by decide +kernel) (pa_cons (pe_ix (ix_tup : IxR _ (rIxT K)) (pv 0) pe_int (fun _ _ => rfl)) (pa_cons (pe_bltn (v := .ty "tuple") rfl T.z_tuple (by decide +kernel) rfl) pa_nil))))) (pw_or1 (pt_cmpR op_ne (pe_callB call_len_seq (by rfl) T.z_len PySem.boot_len (pa_cons (pe_ix (ix_tup : IxR _ (rIxT K)) (pv 0) pe_int (fun _ _ => rfl)) pa_nil)) pe_int (nomark _))))))) (pss_one (ps_ret pe_bl)) pss_nil)
      (pss_one (ps_ret (pe_callB (cr_all rfl) (by rfl) T.z_all (by decide +kernel) (pa_cons (pe_lc (own := [("number", 1)]) (g := (gName 1)) (tt := tYes) rfl sc_is_entry.nd (pi_tup (pe_ix (ix_tup : IxR _ (rIxT K)) (pv 0) pe_int (fun _ _ => rfl))) (blkOk_by (N := ["thing", "number"]) (sc := defScope s_is_entry) (by decide +kernel)) (fun _ _ _ _ _ => (pg_name (i := 1) sc_is_entry.nd rfl (Or.inl rfl))) (fun _ _ _ _ _ => pts_nil) (fun _ _ _ _ _ => (pe_c C_is_whole hr (by decide) (by rfl) (pa_cons (pv 1) pa_nil)))) pa_nil))))), ?_⟩
    refine ⟨.ref a, rfl, .ref a, .ty "tuple", _, _, true, rfl, .ty _, .base (.tup ha), kit_ty (by decide +kernel), true, rfl, iteF ?_⟩
    refine ⟨.ref a, rfl, a, _, rfl, .inr (.inl (.inl ha)), rfl, _, rfl, iteF ?_⟩
    refine ⟨.ref a, rfl, a, _, 1, _, rfl, rfl, .inl (.inl ha), rfl, .ref y, .ty "tuple", _, _, true, rfl, .ty _, .base (.tup hy), kit_ty (by decide +kernel), true, rfl, iteF ?_⟩
    refine ⟨.ref a, rfl, a, _, 1, _, rfl, rfl, .inl (.inl ha), rfl, y, _, rfl, .inr (.inl (.inl hy)), rfl, _, rfl, iteF ?_⟩
    refine ⟨.ref a, rfl, a, _, 1, _, rfl, rfl, .inl (.inl ha), rfl, y, rfl, ⟨_, .inl (.inl hy)⟩, fun D hD => ?_⟩
    refine lc_vals [t.1, t.2.1, t.2.2] (fun _ => .bl true) (walk_tup (xs := [t.1, t.2.1, t.2.2].map V.int)) rfl (small_le (by show 3 ≤ _; decide)) hD (fun H' s => .inl (.inl (s _ _ hy))) (fun i n v H1 H2 hn s1 yy Qy k => ?_) (fun H' s1 hd => ?_)
    · obtain ⟨rfl, rfl⟩ := yat_map yy hn
      exact ⟨rfl, .int n, rfl, n, rfl, k _ (Same.refl _)⟩
    · exact ⟨D, [true, true, true], rfl, .inl (.inl hd), q _ s1⟩

def stR (f f' : Pl → Int) (b : Box) : Bool := if b.1 = b.2 then decide (f' b.1 = f b.1) else true
def sp_stands_right (P : Program) (w : World) : Sp := fun vs H Q _ => ∃ (a d c : Addr) (sd : List Int) (f f' : Pl → Int) (b : Box), vs = [.ref a, .ref d, .ref c] ∧ FdAt H a sd f ∧ TD P w H d (halfB sd) (TB f') ∧ BxAt H c b ∧ b ∈ halfB sd ∧ ∀ H', Same H H' → Q (.bl (stR f f' b)) H'
theorem eq_pl {H : Hp} {x y : Addr} {p q : Pl} {Q : VK} (hx : PlAt H x p) (hy : PlAt H y q) (k : Q (.bl (decide (p = q))) H) : rEqK K (.ref x) (.ref y) H Q := by
  refine ⟨.inr (plc p), .inr (plc q), .key hx.rep, .key hy.rep, Nat.le_trans (plc_depth p) (by decide), Nat.le_trans (plc_depth q) (by decide), ?_⟩
  refine by_eq (congrArg V.bl (decide_eq_decide.mpr ⟨fun e => plc_inj (Sum.inr.inj e), fun e => by rw [e]⟩)) k
theorem eq_tr {H : Hp} {x y : Addr} {p q : Tri} {Q : VK} (hx : TrAt H x p) (hy : TrAt H y q) (k : Q (.bl (decide (p = q))) H) : rEqK K (.ref x) (.ref y) H Q := by
  refine ⟨.inr (trk p), .inr (trk q), .key hx.rep, .key hy.rep, Nat.le_trans (trk_depth p) (by decide), Nat.le_trans (trk_depth q) (by decide), ?_⟩
  refine by_eq (congrArg V.bl (decide_eq_decide.mpr ⟨fun e => trk_inj (Sum.inr.inj e), fun e => by rw [e]⟩)) k
theorem ne_tr {H : Hp} {x y : Addr} {p q : Tri} {Q : VK} (hx : TrAt H x p) (hy : TrAt H y q) (k : Q (.bl (!decide (p = q))) H) : rNeK K (.ref x) (.ref y) H Q := by
  refine ⟨.inr (trk p), .inr (trk q), .key hx.rep, .key hy.rep, Nat.le_trans (trk_depth p) (by decide), Nat.le_trans (trk_depth q) (by decide), ?_⟩
  refine by_eq (congrArg (fun b => V.bl (!b)) (decide_eq_decide.mpr ⟨fun e => trk_inj (Sum.inr.inj e), fun e => by rw [e]⟩)) k
theorem c_stands_right (T : Tx K mg) : Cal P w K mg base 3 "stands_right" (sp_stands_right P w) := by
  have C_cell_at := c_cell_at (P := P) (w := w) (base := base) T
  have C_parts_of := c_parts_of (P := P) (w := w) (base := base) T
  have C_joined := c_joined (P := P) (w := w) (base := base) T
  refine cal_of T.d_stands_right sc_stands_right (fun vs H Q E h => ?_) (fun f cdv A outer s H vs Q E hr h => ?_)
  · obtain ⟨_, _, _, _, _, _, _, rfl, _⟩ := h; rfl
  · obtain ⟨a, d, c, sd, g, g', b, rfl, hf, td, hc, hb, q⟩ := h
    have ws := hf.ws
    have ok := (mem_halfB.mp hb).ok ws.ps
    obtain ⟨lx, hx, hc0, hlo, hhi⟩ := id hc
    refine ⟨_, (pss_cons (ps_asg (pv 2) (pg_tup rfl (pgs_cons (pg_name (i := 3) sc_stands_right.nd rfl (Or.inl rfl)) (pgs_cons (pg_name (i := 4) sc_stands_right.nd rfl (Or.inl rfl)) pgs_nil))))
      (pss_cons (ps_if (pt_cmpR (op_eqK (hu64 hr) : OpR _ (compareOp .Eq) (rEqK K)) (pv 3) (pv 4) (nomark _)) (pss_one (ps_ret (pe_cmpR (op_eqK (hu64 hr) : OpR _ (compareOp .Eq) (rEqK K)) (pe_ix (ix_dn (hu16 hr) : IxR _ (rIxN P w)) (pv 1) (pv 2) (fun _ _ => rfl)) (pe_op (op_repT : OpR _ (binaryOp .Mult) (rRepT K)) (pe_tup (pa_cons (pe_c C_cell_at hr (by decide) (by rfl) (pa_cons (pv 0) (pa_cons (pv 3) pa_nil))) pa_nil)) pe_int) (nomark _)))) pss_nil)
      (pss_cons (ps_for PassesOwn.never rfl (pi_range1 (by rfl) T.z_range (pa_cons (pe_callB call_len_seq (by rfl) T.z_len PySem.boot_len (pa_cons (pv 3) pa_nil)) pa_nil)) (pg_name (i := 5) sc_stands_right.nd rfl (Or.inl rfl)) (pss_one (ps_if (pt_cmpR op_lt (pe_ix (ix_tup : IxR _ (rIxT K)) (pv 3) (pv 5) (fun _ _ => rfl)) (pe_ix (ix_tup : IxR _ (rIxT K)) (pv 4) (pv 5) (fun _ _ => rfl)) (nomark _)) (pss_cons (ps_asg (pe_c C_parts_of hr (by decide) (by rfl) (pa_cons (pv 2) (pa_cons (pv 5) pa_nil))) (pg_tup rfl (pgs_cons (pg_name (i := 6) sc_stands_right.nd rfl (Or.inl rfl)) (pgs_cons (pg_name (i := 7) sc_stands_right.nd rfl (Or.inl rfl)) pgs_nil))))
      (pss_one (ps_if (pt_cmpR (op_neK (hu64 hr) : OpR _ (compareOp .NotEq) (rNeK K)) (pe_ix (ix_dn (hu16 hr) : IxR _ (rIxN P w)) (pv 1) (pv 2) (fun _ _ => rfl)) (pe_c C_joined hr (by decide) (by rfl) (pa_cons (pe_ix (ix_dn (hu16 hr) : IxR _ (rIxN P w)) (pv 1) (pv 6) (fun _ _ => rfl)) (pa_cons (pe_ix (ix_dn (hu16 hr) : IxR _ (rIxN P w)) (pv 1) (pv 7) (fun _ _ => rfl)) pa_nil))) (nomark _)) (pss_one (ps_ret pe_bl)) pss_nil))) pss_nil)))
      (pss_one (ps_ret pe_bl))))), ?_⟩
    refine ⟨.ref c, rfl, c, _, rfl, .inl (.inl hc0), rfl, _, _, rfl, _, _, rfl, rfl, ?_⟩
    refine ⟨.ref lx, rfl, .ref hx, rfl, eq_pl hlo hhi ⟨_, rfl, ite2 (fun e => ?_) (fun e => ?_)⟩⟩
    · have e : b.1 = b.2 := of_decide_eq_true e
      refine ⟨.ref d, rfl, .ref c, rfl, td.ix hb hc fun u hu => ?_⟩
      refine ⟨.ref a, rfl, .ref lx, rfl, a, lx, sd, g, b.1, rfl, hf, hlo, ok.low, fun H1 s1 => ⟨small_le (by show 1 ≤ _; decide), fun t nt => ?_⟩⟩
      refine ⟨t, 3, _, rfl, rfl, .inl (.inl upd_same), by simp, by decide, by decide, by show 1 ≤ 1000; decide, fun p np => ?_⟩
      have s2 := (s1.trans (same_new (o := .tup [V.int (g b.1)]) nt)).trans (same_new (o := .tup [V.int (g b.1), V.int (g b.1), V.int (g b.1)]) np)
      have hp : TrAt (upd (upd H1 t (.tup [V.int (g b.1)])) p (.tup [V.int (g b.1), V.int (g b.1), V.int (g b.1)])) p (g b.1, g b.1, g b.1) := upd_same
      have hu2 : TrAt (upd (upd H1 t (.tup [V.int (g b.1)])) p (.tup [V.int (g b.1), V.int (g b.1), V.int (g b.1)])) u (g' b.1, g' b.1, g' b.1) := by
        have : TB g' b = (g' b.1, g' b.1, g' b.1) := by
          obtain ⟨lo, hi⟩ := b
          have e : lo = hi := e
          subst e; exact TB_one g' lo
        rw [← this]; exact hu.tu (Same.tu s2)
      refine eq_tr hu2 hp (by_eq (congrArg V.bl ?_) (q _ s2))
      unfold stR
      rw [if_pos e]
      exact decide_eq_decide.mpr ⟨fun z => (Prod.mk.inj z).1, fun z => by rw [z]⟩
    · have e : b.1 ≠ b.2 := fun z => e (decide_eq_true z)
      have hll : b.1.length ≤ 3 := by rw [ok.len.1]; exact ws.len
      have hlh : b.2.length ≤ 3 := by rw [ok.len.2]; exact ws.len
      refine ⟨.ref lx, rfl, lx, _, rfl, .inr (.inl (.inl hlo)), ((b.1.map V.int).length : Nat), rfl, ?_, ?_, ?_⟩
      · rw [List.length_map]; omega
      · rw [List.length_map]; omega
      refine for_it walk_range0 (fun i σ H1 => Same H H1 ∧ ∃ y5 y6 y7, σ = [some (.ref a), some (.ref d), some (.ref c), some (.ref lx), some (.ref hx), y5, y6, y7]) ⟨Same.refl H, none, none, none, rfl⟩ (fun _ _ _ _ _ => trivial) (fun i v σ H1 H2 hi h yy => ?_) (fun σ H1 h => ?_)
      · obtain ⟨s1, y5, y6, y7, rfl⟩ := h
        obtain ⟨rfl, rfl⟩ := yy
        have hi1 : i < b.1.length := by simpa using hi
        have hi2 : i < b.2.length := by rw [ok.len.2, ← ok.len.1]; exact hi1
        have g1 := List.getElem?_eq_getElem hi1
        have g2 := List.getElem?_eq_getElem hi2
        refine ⟨_, rfl, .int (i : Nat), rfl, lx, _, (i : Nat), _, rfl, rfl, .inl (.inl (s1 _ _ hlo)), atI_nat (get_int g1), _, rfl, .int (i : Nat), rfl, hx, _, (i : Nat), _, rfl, rfl, .inl (.inl (s1 _ _ hhi)), atI_nat (get_int g2), _, _, rfl, rfl, _, rfl, ite2 (fun e2 => ?_) (fun e2 => ?_)⟩
        · have wy : Way b i b.1[i] b.2[i] := ⟨g1, g2, of_decide_eq_true e2⟩
          have pr := wy.parts hb
          refine ⟨_, rfl, _, rfl, c, b, i, _, _, rfl, hc.tu (Same.tu s1), wy, hll, hlh, fun t u v H3 s3 ht hu hv => ?_⟩
          have td3 := (td.same s1).same s3
          refine ⟨t, _, rfl, .inl (.inl ht), rfl, _, _, rfl, _, _, rfl, rfl, ?_⟩
          refine ⟨_, rfl, _, rfl, td3.ix hb ((hc.tu (Same.tu s1)).tu (Same.tu s3)) fun c0 h0 => ?_⟩
          refine ⟨_, rfl, _, rfl, td3.ix pr.1 hu fun c1 h1 => ⟨_, rfl, _, rfl, td3.ix pr.2 hv fun c2 h2 => ?_⟩⟩
          refine ⟨c1, c2, _, _, rfl, h1, h2, fun c3 H4 s4 h4 => ?_⟩
          rw [← wy.join ws.ps hb g'] at h4
          refine ne_tr (h0.tu (Same.tu s4)) h4 ⟨_, rfl, ?_⟩
          rw [decide_eq_true rfl]
          exact iteF ⟨(s1.trans s3).trans s4, _, _, _, rfl⟩
        · exact ⟨s1, _, _, _, rfl⟩
      · obtain ⟨s1, y5, y6, y7, rfl⟩ := h
        refine by_eq (congrArg V.bl ?_) (q H1 s1)
        unfold stR
        rw [if_neg e]

theorem inB_zip : ∀ {lo p hi : Pl}, lo.length = p.length → hi.length = p.length → inB lo hi p = (lo.zip (p.zip hi)).all fun q => decide (q.1 ≤ q.2.1) && decide (q.2.1 ≤ q.2.2)
  | [], [], [], _, _ => rfl
  | [], [], _ :: _, _, h => by simp at h
  | [], _ :: _, _, h, _ => by simp at h
  | _ :: _, [], _, h, _ => by simp at h
  | _ :: _, _ :: _, [], _, h => by simp at h
  | a :: lo, x :: p, b :: hi, h1, h2 => by
    rw [inB, inB_zip (by simpa using h1) (by simpa using h2)]; simp
def sp_has_place : Sp := fun vs H Q _ => ∃ (c e : Addr) (b : Box) (p : Pl), vs = [.ref c, .ref e] ∧ BxAt H c b ∧ PlAt H e p ∧ b.1.length = p.length ∧ b.2.length = p.length ∧ p.length ≤ 3 ∧ ∀ H', Same H H' → Q (.bl (inB b.1 b.2 p)) H'
theorem c_has_place (T : Tx K mg) : Cal P w K mg base 1 "has_place" sp_has_place := by
  refine cal_of T.d_has_place sc_has_place (fun vs H Q E h => ?_) (fun f cdv A outer s H vs Q E hr h => ?_)
  · obtain ⟨_, _, _, _, rfl, _⟩ := h; rfl
  · obtain ⟨c, e, b, p, rfl, ⟨lx, hx, hc, hlo, hhi⟩, he, l1, l2, l3, q⟩ := h
    refine ⟨_, (pss_one (ps_ret (pe_callB (cr_all rfl) (by rfl) T.z_all (by decide +kernel) (pa_cons (pe_lc (own := [("low", 2), ("number", 3), ("high", 4)]) (g := (gTup K 3 (gCons (gName 2) (gCons (gName 3) (gCons (gName 4) gNil))))) (tt := tYes) rfl sc_has_place.nd (pi_zip3 (by rfl) T.z_zip (pa_cons (pe_ix (ix_tup : IxR _ (rIxT K)) (pv 0) pe_int (fun _ _ => rfl)) (pa_cons (pv 1) (pa_cons (pe_ix (ix_tup : IxR _ (rIxT K)) (pv 0) pe_int (fun _ _ => rfl)) pa_nil)))) (blkOk_by (N := ["box", "place", "low", "number", "high"]) (sc := defScope s_has_place) (by decide +kernel)) (fun _ _ _ _ _ => (pg_tup rfl (pgs_cons (pg_name (i := 2) sc_has_place.nd rfl (Or.inl rfl)) (pgs_cons (pg_name (i := 3) sc_has_place.nd rfl (Or.inl rfl)) (pgs_cons (pg_name (i := 4) sc_has_place.nd rfl (Or.inl rfl)) pgs_nil))))) (fun _ _ _ _ _ => pts_nil) (fun _ _ _ _ _ => (pe_chain op_le op_le (pv 2) (pv 3) (pv 4)))) pa_nil)))), ?_⟩
    refine ⟨_, rfl, c, _, 0, _, rfl, rfl, .inl (.inl hc), rfl, _, rfl, _, rfl, c, _, 1, _, rfl, rfl, .inl (.inl hc), rfl, ?_⟩
    refine ⟨(true, lx, b.1.map V.int), (true, e, p.map V.int), (true, hx, b.2.map V.int), p.length, rfl, src_pl hlo, src_pl he, src_pl hhi, by simp [l1], by simp, by simp [l2], fun D hD => ?_⟩
    refine lc_vals (b.1.zip (p.zip b.2)) (fun q => .bl (decide (q.1 ≤ q.2.1) && decide (q.2.1 ≤ q.2.2))) walk_src (by rw [List.length_zip, List.length_zip, l1, l2, Nat.min_self, Nat.min_self]) (small_le (by omega)) hD (fun H' s => srcs3 (src_pl (hlo.tu (Same.tu s))) (src_pl (he.tu (Same.tu s))) (src_pl (hhi.tu (Same.tu s)))) (fun i r v H1 H2 hr s1 yy Qy k => ?_) (fun H' s1 hd => ?_)
    · obtain ⟨g1, g2⟩ := zip_get hr
      obtain ⟨g2, g3⟩ := zip_get g2
      obtain ⟨t, rfl, nt, rfl⟩ := ytup3 yy (get_int g1) (get_int g2) (get_int g3)
      refine ⟨t, _, rfl, .inl (.inl upd_same), rfl, _, _, rfl, _, _, rfl, _, _, rfl, rfl, rfl, ?_⟩
      refine ⟨_, rfl, _, rfl, r.1, r.2.1, rfl, rfl, _, rfl, ite2 (fun e => ?_) (fun e => ?_)⟩
      · exact ⟨_, rfl, r.2.1, r.2.2, rfl, rfl, by_eq (by rw [e, Bool.true_and]) (k _ (same_new nt))⟩
      · exact by_eq (by rw [Bool.eq_false_iff.mpr e, Bool.false_and]) (k _ (same_new nt))
    · refine ⟨D, (b.1.zip (p.zip b.2)).map fun q => decide (q.1 ≤ q.2.1) && decide (q.2.1 ≤ q.2.2), rfl, .inl (.inl (by rw [hd, List.map_map]; rfl)), by_eq (congrArg V.bl ?_) (q _ s1)⟩
      rw [inB_zip l1 l2, List.all_map]; rfl
end Bx

set_option Elab.async false
set_option linter.all false
set_option maxRecDepth 100000
set_option maxHeartbeats 1000000
/-! put_together, cells_many, changed_halves. -/
namespace Bx
open PySem PySem.Spec PyProof.Rows L2
variable {P : Program} {w : World} {K : PySem.W.Frag} {mg : Str → Option Value} {base : Heap}
def sp_put_together (P : Program) (w : World) : Sp := fun vs H Q _ => ∃ (d c : Addr) (sd : List Int) (g : Box → Tri) (b : Box), vs = [.ref d, .ref c] ∧ TD P w H d (halfB sd) g ∧ BxAt H c b ∧ b ∈ halfB sd ∧ b.1 ≠ b.2 ∧ WS sd ∧
  ∀ r H' k x y, Same H H' → Way b k x y → TrAt H' r (joinT (g (p1 b k (mid x y))) (g (p2 b k (mid x y)))) → Q (.ref r) H'
theorem c_put_together (T : Tx K mg) : Cal P w K mg base 3 "put_together" (sp_put_together P w) := by
  have C_parts_of := c_parts_of (P := P) (w := w) (base := base) T
  have C_joined := c_joined (P := P) (w := w) (base := base) T
  refine cal_of T.d_put_together sc_put_together (fun vs H Q E h => ?_) (fun f cdv A outer s H vs Q E hr h => ?_)
  · obtain ⟨_, _, _, _, _, rfl, _⟩ := h; rfl
  · obtain ⟨d, c, sd, g, b, rfl, td, hc, hb, hne, ws, q⟩ := h
    have ok := (mem_halfB.mp hb).ok ws.ps
    obtain ⟨lx, hx, hc0, hlo, hhi⟩ := id hc
    have hll : b.1.length ≤ 3 := by rw [ok.len.1]; exact ws.len
    have hlh : b.2.length ≤ 3 := by rw [ok.len.2]; exact ws.len
    have hle : b.2.length = b.1.length := by rw [ok.len.1, ok.len.2]
    refine ⟨_, (pss_cons (ps_set (i := 2) sc_put_together.nd rfl (Or.inl rfl) (pe_ix (ix_list : IxR _ (rIxL K)) (pe_lc (own := [("at", 5)]) (g := (gName 5)) rfl sc_put_together.nd (pi_range1 (by rfl) T.z_range (pa_cons (pe_callB call_len_seq (by rfl) T.z_len PySem.boot_len (pa_cons (pe_ix (ix_tup : IxR _ (rIxT K)) (pv 1) pe_int (fun _ _ => rfl)) pa_nil)) pa_nil)) (blkOk_by (N := ["known", "box", "way", "first", "second", "at"]) (sc := defScope s_put_together) (by decide +kernel)) (fun _ _ _ _ _ => (pg_name (i := 5) sc_put_together.nd rfl (Or.inl rfl))) (fun _ _ _ _ _ => (pts_one (pt_cmpR op_lt (pe_ix (ix_tup : IxR _ (rIxT K)) (pe_ix (ix_tup : IxR _ (rIxT K)) (pv 1) pe_int (fun _ _ => rfl)) (pv 5) (fun _ _ => rfl)) (pe_ix (ix_tup : IxR _ (rIxT K)) (pe_ix (ix_tup : IxR _ (rIxT K)) (pv 1) pe_int (fun _ _ => rfl)) (pv 5) (fun _ _ => rfl)) (nomark _)))) (fun _ _ _ _ _ => (pv 5))) pe_int (fun _ _ => rfl)))
      (pss_cons (ps_asg (pe_c C_parts_of hr (by decide) (by rfl) (pa_cons (pv 1) (pa_cons (pv 2) pa_nil))) (pg_tup rfl (pgs_cons (pg_name (i := 3) sc_put_together.nd rfl (Or.inl rfl)) (pgs_cons (pg_name (i := 4) sc_put_together.nd rfl (Or.inl rfl)) pgs_nil))))
      (pss_one (ps_ret (pe_c C_joined hr (by decide) (by rfl) (pa_cons (pe_ix (ix_dn (hu16 hr) : IxR _ (rIxN P w)) (pv 0) (pv 3) (fun _ _ => rfl)) (pa_cons (pe_ix (ix_dn (hu16 hr) : IxR _ (rIxN P w)) (pv 0) (pv 4) (fun _ _ => rfl)) pa_nil))))))), ?_⟩
    refine ⟨_, rfl, c, _, 0, _, rfl, rfl, .inl (.inl hc0), rfl, lx, _, rfl, .inr (.inl (.inl hlo)), ((b.1.map V.int).length : Nat), rfl, by rw [List.length_map]; omega, by rw [List.length_map]; omega, fun D hD => ?_⟩
    refine lc_if (List.range b.1.length) (fun k => decide (b.1.getD k 0 < b.2.getD k 0)) (fun k _ y => y = .int ((k : Nat) : Int)) (S := nowhere) (fun _ => True) walk_range0 (by simp) (small_le (by simp; omega)) hD (fun z => z) trivial (fun _ _ _ _ => trivial) (fun _ _ _ => trivial) (fun _ _ _ _ _ _ _ h => h) (fun i k v H1 H2 hk o _ hd yy Qy Qn kt kf => ?_) (fun H1 ys o _ hd hp => ?_)
    · obtain ⟨rfl, rfl⟩ := yy
      have hi1 : i < b.1.length := by simpa using (List.getElem?_eq_some_iff.mp hk).1
      have hi2 : i < b.2.length := by rw [hle]; exact hi1
      rw [List.getElem?_range hi1] at hk
      cases hk
      have s1 := o.same
      have g1 : b.1[i]? = some (b.1.getD i 0) := by rw [List.getD_eq_getElem?_getD, List.getElem?_eq_getElem hi1]; rfl
      have g2 : b.2[i]? = some (b.2.getD i 0) := by rw [List.getD_eq_getElem?_getD, List.getElem?_eq_getElem hi2]; rfl
      refine ⟨rfl, _, rfl, c, _, 0, _, rfl, rfl, .inl (.inl (s1 _ _ hc0)), rfl, .int (i : Nat), rfl, lx, _, (i : Nat), _, rfl, rfl, .inl (.inl (s1 _ _ hlo)), atI_nat (get_int g1), _, rfl, c, _, 1, _, rfl, rfl, .inl (.inl (s1 _ _ hc0)), rfl, .int (i : Nat), rfl, hx, _, (i : Nat), _, rfl, rfl, .inl (.inl (s1 _ _ hhi)), atI_nat (get_int g2), _, _, rfl, rfl, _, rfl, ite2 (fun e => ?_) (fun e => ?_)⟩
      · exact ⟨_, rfl, kt e _ _ (Off.refl _) trivial rfl⟩
      · exact kf (Bool.eq_false_iff.mpr e) _ (Off.refl _) trivial
    · have s1 := o.same
      obtain ⟨way, x, y, h0, h1, h2, h3⟩ := way_of ok hne
      have hf : (List.range b.1.length).filter (fun k => decide (b.1.getD k 0 < b.2.getD k 0)) ≠ [] := fun z => by
        rw [List.filter_eq_nil_iff] at z
        refine z way (List.mem_range.mpr h0) ?_
        rw [List.getD_eq_getElem?_getD, List.getD_eq_getElem?_getD, h1, h2]
        exact decide_eq_true h3
      obtain ⟨k, ks, hks⟩ : ∃ k ks, (List.range b.1.length).filter (fun k => decide (b.1.getD k 0 < b.2.getD k 0)) = k :: ks := by
        cases hh : (List.range b.1.length).filter (fun k => decide (b.1.getD k 0 < b.2.getD k 0)) with
        | nil => exact absurd hh hf
        | cons k ks => exact ⟨k, ks, rfl⟩
      have hkm : k ∈ (List.range b.1.length).filter (fun k => decide (b.1.getD k 0 < b.2.getD k 0)) := by rw [hks]; exact List.mem_cons_self
      rw [List.mem_filter, List.mem_range] at hkm
      have wy : Way b k b.1[k] (b.2[k]'(by rw [hle]; exact hkm.1)) := by
        refine ⟨List.getElem?_eq_getElem _, List.getElem?_eq_getElem _, ?_⟩
        have := of_decide_eq_true hkm.2
        rw [List.getD_eq_getElem?_getD, List.getD_eq_getElem?_getD, List.getElem?_eq_getElem hkm.1, List.getElem?_eq_getElem (by rw [hle]; exact hkm.1)] at this
        exact this
      rw [hks] at hp
      obtain ⟨v, gv, ev⟩ := pr_get hp (i := 0) rfl
      subst ev
      refine ⟨D, ys, 0, .int ((k : Nat) : Int), rfl, rfl, .inl (.inl hd), atI_nat (j := 0) gv, ?_⟩
      refine ⟨_, rfl, _, rfl, c, b, k, _, _, rfl, hc.tu (Same.tu s1), wy, hll, hlh, fun t u v H3 s3 ht hu hv => ?_⟩
      have td3 := (td.same s1).same s3
      have pr := wy.parts hb
      refine ⟨t, _, rfl, .inl (.inl ht), rfl, _, _, rfl, _, _, rfl, rfl, ?_⟩
      refine ⟨_, rfl, _, rfl, td3.ix pr.1 hu fun c1 h1 => ⟨_, rfl, _, rfl, td3.ix pr.2 hv fun c2 h2 => ?_⟩⟩
      exact ⟨c1, c2, _, _, rfl, h1, h2, fun c3 H4 s4 h4 => q c3 H4 k _ _ ((s1.trans s3).trans s4) wy h4⟩

def sp_cells_many : Sp := fun vs H Q _ => ∃ (c : Addr) (sd : List Int) (b : Box), vs = [.ref c] ∧ BxAt H c b ∧ OkB sd b.1 b.2 ∧ WS sd ∧ ∀ H', Same H H' → Q (.int (many b : Nat)) H'
theorem okB_sm : ∀ {sd : List Int} {lo hi : Pl}, OkB sd lo hi → (∀ x ∈ sd, x ≤ 120) → ∀ q ∈ lo.zip hi, 0 ≤ q.1 ∧ q.1 ≤ q.2 ∧ q.2 < 120
  | [], [], [], _, _, q, hq => by cases hq
  | [], [], _ :: _, h, _, _, _ => h.elim
  | [], _ :: _, _, h, _, _, _ => h.elim
  | _ :: _, [], _, h, _, _, _ => h.elim
  | _ :: _, _ :: _, [], h, _, _, _ => h.elim
  | s :: sd, a :: lo, b :: hi, h, hs, q, hq => by
    rw [List.zip_cons_cons] at hq
    rcases List.mem_cons.mp hq with rfl | hq
    · have := hs s List.mem_cons_self
      have := h.1
      show 0 ≤ a ∧ a ≤ b ∧ b < 120
      omega
    · exact okB_sm h.2 (fun x hx => hs x (List.mem_cons_of_mem _ hx)) q hq
theorem pbStep_len (l : List Pl) (r : Int × Int) : (pbStep l r).length = l.length * (r.2 + 1 - r.1).toNat := by
  unfold pbStep
  rw [List.length_flatMap]
  simp only [List.length_map, rg_len]
  rw [List.map_const', List.sum_replicate_nat]
theorem c_cells_many (T : Tx K mg) : Cal P w K mg base 1 "cells_many" sp_cells_many := by
  refine cal_of T.d_cells_many sc_cells_many (fun vs H Q E h => ?_) (fun f cdv A outer s H vs Q E hr h => ?_)
  · obtain ⟨_, _, _, rfl, _⟩ := h; rfl
  · obtain ⟨c, sd, b, rfl, ⟨lx, hx, hc, hlo, hhi⟩, ok, ws, q⟩ := h
    have hzl : (b.1.zip b.2).length = sd.length := by rw [List.length_zip, ok.len.1, ok.len.2, Nat.min_self]
    refine ⟨_, (pss_cons (ps_set (i := 1) sc_cells_many.nd rfl (Or.inl rfl) pe_int)
      (pss_cons (ps_for PassesOwn.never rfl (pi_zip2 (by rfl) T.z_zip (pa_cons (pe_ix (ix_tup : IxR _ (rIxT K)) (pv 0) pe_int (fun _ _ => rfl)) (pa_cons (pe_ix (ix_tup : IxR _ (rIxT K)) (pv 0) pe_int (fun _ _ => rfl)) pa_nil))) (pg_tup rfl (pgs_cons (pg_name (i := 2) sc_cells_many.nd rfl (Or.inl rfl)) (pgs_cons (pg_name (i := 3) sc_cells_many.nd rfl (Or.inl rfl)) pgs_nil))) (pss_one (ps_set (i := 1) sc_cells_many.nd rfl (Or.inl rfl) (pe_op op_mul (pv 1) (pe_op op_add (pe_op op_sub (pv 3) (pv 2)) pe_int)))))
      (pss_one (ps_ret (pv 1))))), ?_⟩
    refine ⟨_, rfl, c, _, 0, _, rfl, rfl, .inl (.inl hc), rfl, _, rfl, c, _, 1, _, rfl, rfl, .inl (.inl hc), rfl, ?_⟩
    refine ⟨(true, lx, b.1.map V.int), (true, hx, b.2.map V.int), sd.length, rfl, src_pl hlo, src_pl hhi, by simp [ok.len.1], by simp [ok.len.2], ?_⟩
    refine for_it walk_src (fun i σ H1 => Same H H1 ∧ ∃ y2 y3, σ = [some (.ref c), some (.int ((pb ((b.1.zip b.2).take i)).length : Nat)), y2, y3]) ⟨Same.refl H, none, none, rfl⟩ (fun i σ H' _ h => srcs2 (src_pl (hlo.tu (Same.tu h.1))) (src_pl (hhi.tu (Same.tu h.1)))) (fun i v σ H1 H2 hi h yy => ?_) (fun σ H1 h => ?_)
    · obtain ⟨s1, y2, y3, rfl⟩ := h
      have g := List.getElem?_eq_getElem (show i < (b.1.zip b.2).length by omega)
      obtain ⟨g1, g2⟩ := zip_get g
      have o := okB_sm ok ws.sm _ (List.mem_of_getElem? g)
      have hstep : (pb ((b.1.zip b.2).take (i + 1))).length = (pb ((b.1.zip b.2).take i)).length * (((b.1.zip b.2)[i]'(by omega)).2 + 1 - ((b.1.zip b.2)[i]'(by omega)).1).toNat := by
        rw [List.take_add_one, g, ← pbStep_len]; exact congrArg List.length (pb_snoc _ _)
      generalize (b.1.zip b.2)[i] = r at g g1 g2 o hstep
      obtain ⟨t, rfl, nt, rfl⟩ := ytup2 yy (get_int g1) (get_int g2)
      refine ⟨t, _, rfl, .inl (.inl upd_same), rfl, _, _, rfl, _, _, rfl, rfl, ?_⟩
      refine ⟨_, rfl, _, rfl, _, rfl, _, _, rfl, rfl, _, _, rfl, rfl, _, _, rfl, rfl, .inr ⟨by omega, by omega⟩, ?_⟩
      refine ⟨s1.trans (same_new nt), some (.int r.1), some (.int r.2), ?_⟩
      rw [hstep, Int.natCast_mul, show (((r.2 + 1 - r.1).toNat : Nat) : Int) = r.2 - r.1 + 1 by omega]
      rfl
    · obtain ⟨s1, y2, y3, rfl⟩ := h
      rw [← hzl, List.take_length]
      exact ⟨_, rfl, q H1 s1⟩

/-- what changed_halves answers: the new table and the changed boxes -/
def sp_changed_halves (P : Program) (w : World) : Sp := fun vs H Q _ => ∃ (a t e : Addr) (sd : List Int) (f : Pl → Int) (p : Pl) (n : Int), vs = [.ref a, .ref t, .ref e, .int n] ∧ PlAt H a sd ∧ Ls H t ((halfB sd).map (tabk (TB f))) ∧ PlAt H e p ∧ OkP sd p ∧ WS sd ∧
  ∀ r u v H', Same H H' → H' r = some (.tup [.ref u, .ref v]) → H u = none → H v = none → u ≠ v → Ls H' u ((halfB sd).map (tabk (TB (chg f p n)))) → Ls H' v (((halfB sd).filter fun b => inB b.1 b.2 p).map bxk) → Q (.ref r) H'
theorem key_pairs {H : Hp} : ∀ {bs : List Box} {xs : List V} {ps : List (Int × V)}, Reps H (bs.map bxk) xs → ps.Perm ((bs.map fun b => (many b : Int)).zip xs) → ∃ bs' : List Box, bs'.Perm bs ∧ Reps H (bs'.map bxk) (ps.map (·.2)) ∧ ps.map (·.1) = bs'.map fun b => (many b : Int) := by
  intro bs xs ps hr hp
  have go : ∀ {ps qs : List (Int × V)}, ps.Perm qs → ∀ {bs : List Box}, Reps H (bs.map bxk) (qs.map (·.2)) → (qs.map (·.1) = bs.map fun b => (many b : Int)) → ∃ bs' : List Box, bs'.Perm bs ∧ Reps H (bs'.map bxk) (ps.map (·.2)) ∧ ps.map (·.1) = bs'.map fun b => (many b : Int) := by
    intro ps qs h
    induction h with
    | nil => intro bs h1 h2; exact ⟨bs, .refl _, h1, h2⟩
    | cons x _ ih =>
      intro bs h1 h2
      cases bs with
      | nil => simp at h2
      | cons b bs =>
        obtain ⟨y, r, e, hy, hr⟩ := h1
        rw [List.map_cons, List.cons.injEq] at e
        rw [List.map_cons, List.map_cons, List.cons.injEq] at h2
        obtain ⟨bs', k1, k2, k3⟩ := ih (by rw [e.2]; exact hr) h2.2
        exact ⟨b :: bs', k1.cons b, ⟨_, _, rfl, (by show Rep H _ x.2; rw [e.1]; exact hy), k2⟩, by rw [List.map_cons, List.map_cons, k3, h2.1]⟩
    | swap x y l =>
      intro bs h1 h2
      match bs, h1, h2 with
      | [], _, h2 => simp at h2
      | [_], _, h2 => simp at h2
      | b :: c :: bs, ⟨y1, r, e, hy, y2, r2, e2, hy2, hr⟩, h2 =>
        simp only [List.map_cons, List.cons.injEq] at e h2
        rw [e2] at e
        simp only [List.cons.injEq] at e
        refine ⟨c :: b :: bs, .swap b c bs, ⟨_, _, rfl, (by first | (show Rep H _ y.2; rw [e.2.1]; exact hy2) | (show Rep H _ x.2; rw [e.2.1]; exact hy2)), _, _, rfl, (by first | (show Rep H _ x.2; rw [e.1]; exact hy) | (show Rep H _ y.2; rw [e.1]; exact hy)), by rw [e.2.2]; exact hr⟩, ?_⟩
        simp only [List.map_cons, List.cons.injEq]
        exact ⟨h2.2.1, h2.1, h2.2.2⟩
    | trans _ _ ih1 ih2 =>
      intro bs h1 h2
      obtain ⟨bs', k1, k2, k3⟩ := ih2 h1 h2
      obtain ⟨bs2, j1, j2, j3⟩ := ih1 k2 k3
      exact ⟨bs2, j1.trans k1, j2, j3⟩
  have hl := hr.length
  rw [List.length_map] at hl
  have e1 : (((bs.map fun b => (many b : Int)).zip xs).map (·.2)) = xs := by rw [List.map_snd_zip (by rw [List.length_map]; omega)]
  have e2 : (((bs.map fun b => (many b : Int)).zip xs).map (·.1)) = bs.map fun b => (many b : Int) := by rw [List.map_fst_zip (by rw [List.length_map]; omega)]
  exact go hp (by rw [e1]; exact hr) e2
end Bx

set_option Elab.async false
set_option linter.all false
set_option maxRecDepth 100000
set_option maxHeartbeats 1000000
/-! changed_halves. -/
namespace Bx
open PySem PySem.Spec PyProof.Rows L2
variable {P : Program} {w : World} {K : PySem.W.Frag} {mg : Str → Option Value} {base : Heap}
theorem TD.at {H : Hp} {d : Addr} {bs : List Box} {g : Box → Tri} (t : TD P w H d bs g) : ∃ φ, H d = some (.ext φ) := by
  obtain ⟨es, D, _⟩ := t
  exact ⟨_, D.here⟩
theorem tu_offd {H H' : Hp} {d : Addr} {φ : Heap → Prop} (h : H d = some (.ext φ)) (o : Off (fun x => x = d) H H') : Tu H H' := fun a xs e => o a _ (fun z => by subst z; rw [h] at e; cases e) e
theorem off_fresh {H H1 H2 : Hp} {d : Addr} (s : Same H H1) (n : H d = none) (o : Off (fun x => x = d) H1 H2) : Same H H2 := fun b u e => o b u (ne_of_none e n) (s b u e)
theorem zip_keys {ps : List (Int × V)} {bs : List Box} (e : ps.map (·.1) = bs.map fun b => (many b : Int)) (h : ps.Pairwise fun p q => p.1 ≤ q.1) : bs.Pairwise fun b c => many b ≤ many c := by
  have h1 : (ps.map (·.1)).Pairwise (· ≤ ·) := List.pairwise_map.mpr h
  rw [e, List.pairwise_map] at h1
  exact h1.imp fun h => by omega
theorem c_changed_halves (T : Tx K mg) : Cal P w K mg base 4 "changed_halves" (sp_changed_halves P w) := by
  have C_half_boxes := c_half_boxes (P := P) (w := w) (base := base) T
  have C_has_place := c_has_place (P := P) (w := w) (base := base) T
  have C_put_together := c_put_together (P := P) (w := w) (base := base) T
  obtain ⟨kf, kfd, kps, KF, KM, _, KB⟩ := (c_cells_many (P := P) (w := w) (base := base) T).ex
  refine cal_of T.d_changed_halves sc_changed_halves (fun vs H Q E h => ?_) (fun f cdv A outer s H vs Q E hr h => ?_)
  · obtain ⟨_, _, _, _, _, _, _, rfl, _⟩ := h; rfl
  · obtain ⟨a, t, e, sd, g, pp, n, rfl, ha, ht, he, okp, ws, q⟩ := h
    have hlen := halfB_len ws
    have nd := halfB_nodup ws.ps
    refine ⟨_, (pss_cons (ps_set (i := 4) sc_changed_halves.nd rfl (Or.inr rfl) (pe_callTy (call_dictL rfl (hu16 hr)) (by rfl) T.z_dict (by decide +kernel) (pa_cons (pv 1) pa_nil)))
      (pss_cons (ps_setLc (i := 5) (own := [("box", 6)]) (g := (gName 6)) rfl sc_changed_halves.nd rfl rfl (sw_true rfl rfl rfl (by decide +kernel)) (pi_list (pe_c C_half_boxes hr (by decide) (by rfl) (pa_cons (pv 0) pa_nil))) (blkOk_by (N := ["sides", "table", "place", "number", "known", "boxes", "box", "told"]) (sc := defScope s_changed_halves) (by decide +kernel)) (fun _ _ _ _ _ => (pg_name (i := 6) sc_changed_halves.nd rfl (Or.inl rfl))) (fun _ _ _ _ _ => (pts_one (pt_val (pe_c C_has_place hr (by decide) (by rfl) (pa_cons (pv 6) (pa_cons (pv 2) pa_nil)))))) (fun _ _ _ _ _ => (pv 6)))
      (pss_cons (ps_for PassesOwn.never rfl (pi_list (pe_callBK (cr_sortKey KF (hr.mono (by decide)) KB) (by rfl) T.z_sorted (by decide +kernel) (pa_cons (pv 5) pa_nil) (pk_cons (pe_glob (v := .ref kf) (by rfl) KM rfl) pk_nil))) (pg_name (i := 6) sc_changed_halves.nd rfl (Or.inl rfl)) (pss_one (ps_if (pt_cmpR (op_eqK (hu64 hr) : OpR _ (compareOp .Eq) (rEqK K)) (pe_ix (ix_tup : IxR _ (rIxT K)) (pv 6) pe_int (fun _ _ => rfl)) (pe_ix (ix_tup : IxR _ (rIxT K)) (pv 6) pe_int (fun _ _ => rfl)) (nomark _)) (pss_one (ps_asg (pe_tup (pa_cons (pv 3) (pa_cons (pv 3) (pa_cons (pv 3) pa_nil)))) (pg_sub (pv 4) (pv 6) (set_dn (hu16 hr) : PSet _ (rPutN P w)) (fun _ => rfl)))) (pss_one (ps_asg (pe_c C_put_together hr (by decide) (by rfl) (pa_cons (pv 4) (pa_cons (pv 6) pa_nil))) (pg_sub (pv 4) (pv 6) (set_dn (hu16 hr) : PSet _ (rPutN P w)) (fun _ => rfl)))))))
      (pss_one (ps_ret (pe_tup (pa_cons (pe_lc (own := [("box", 6), ("told", 7)]) (g := (gTup K 2 (gCons (gName 6) (gCons (gName 7) gNil)))) (tt := tYes) rfl sc_changed_halves.nd (pi_list (pv 1)) (blkOk_by (N := ["sides", "table", "place", "number", "known", "boxes", "box", "told"]) (sc := defScope s_changed_halves) (by decide +kernel)) (fun _ _ _ _ _ => (pg_tup rfl (pgs_cons (pg_name (i := 6) sc_changed_halves.nd rfl (Or.inl rfl)) (pgs_cons (pg_name (i := 7) sc_changed_halves.nd rfl (Or.inl rfl)) pgs_nil)))) (fun _ _ _ _ _ => pts_nil) (fun _ _ _ _ _ => (pe_tup (pa_cons (pv 6) (pa_cons (pe_ix (ix_dn (hu16 hr) : IxR _ (rIxN P w)) (pv 4) (pv 6) (fun _ _ => rfl)) pa_nil))))) (pa_cons (pv 5) pa_nil)))))))), ?_⟩
    -- known = dict(table)
    obtain ⟨eys, ees, de1, de2, de3, de4⟩ := dict_pre (P := P) (w := w) ht nd (by omega)
    refine ⟨.ref t, rfl, t, eys, ees, rfl, .inl (.inl de1), de2, de3, fun d fd DD => ?_⟩
    have td := de4 d fd DD
    have s1 := same_new (o := DnO P w d ees) fd
    -- boxes = [..]
    refine ⟨.ref a, rfl, a, sd, rfl, ha.tu (Same.tu s1), ws, fun L H2 s2 fL lL => ?_⟩
    obtain ⟨fs, hL, rL⟩ := lL
    have s02 := s1.trans s2
    refine ⟨L, rfl, ⟨_, .inl (.inl hL)⟩, fun D hD => ?_⟩
    refine lc_dataIf (halfB sd) (fun b => inB b.1 b.2 pp) bxk (walk_list (xs := fs)) (by rw [rL.length, List.length_map]) (small_le (by rw [rL.length, List.length_map]; omega)) hD (fun H' s => .inl (.inl (s _ _ hL))) (fun i b v H3 H4 hb s3 yy Qy Qn kt kf' => ?_) (fun H3 zs s3 hD3 rz => ?_)
    · obtain ⟨rfl, gv⟩ := yy
      obtain ⟨v', gv', rv'⟩ := rL.get (k := bxk b) (by rw [List.getElem?_map, hb]; rfl)
      cases gv.symm.trans gv'
      obtain ⟨c, rfl, hc⟩ := rep_bx (rv'.mono (Same.tu s3))
      have ok := (mem_halfB.mp (List.mem_of_getElem? hb)).ok ws.ps
      refine ⟨rfl, .ref c, rfl, .ref e, rfl, c, e, b, pp, rfl, hc, (he.tu (Same.tu s02)).tu (Same.tu s3), by rw [ok.len.1, okp.len], by rw [ok.len.2, okp.len], by rw [okp.len]; exact ws.len, fun H5 s5 => ⟨_, rfl, ?_⟩⟩
      cases hin : inB b.1 b.2 pp with
      | true => exact iteT ⟨.ref c, rfl, kt hin _ _ s5 (hc.tu (Same.tu s5)).rep⟩
      | false => exact iteF (kf' hin _ s5)
    -- the walk by the number of cells
    have s03 := s02.trans s3
    have td3 := (td.same s2).same s3
    have fD : H D = none := same_none s02 hD
    have hzl : zs.length ≤ 343 := by rw [rz.length, List.length_map]; exact Nat.le_trans (List.length_filter_le _ _) hlen
    refine ⟨.ref D, rfl, D, zs, ((halfB sd).filter fun b => inB b.1 b.2 pp).map fun b => (many b : Int), rfl, rfl, .inl (.inl hD3), fun x hx => ?_, by rw [rz.length, List.length_map, List.length_map], fun i x k hx hk H5 s5 Q1 k1 => ?_, fun ys S H5 hks s5 nS => ?_⟩
    · obtain ⟨b, _, hb⟩ := reps_mem rz hx
      obtain ⟨c, rfl, _⟩ := rep_bx hb
      exact ⟨c, rfl⟩
    · obtain ⟨b, gb, ek⟩ : ∃ b, ((halfB sd).filter fun b => inB b.1 b.2 pp)[i]? = some b ∧ (many b : Int) = k := by
        rw [List.getElem?_map] at hk
        obtain ⟨b, gb, ek⟩ := Option.map_eq_some_iff.mp hk
        exact ⟨b, gb, ek⟩
      obtain ⟨v', gv', rv'⟩ := rz.get (k := bxk b) (by rw [List.getElem?_map, gb]; rfl)
      cases hx.symm.trans gv'
      obtain ⟨c, rfl, hc⟩ := rep_bx (rv'.mono (Same.tu s5))
      have hbm := (List.mem_filter.mp (List.mem_of_getElem? gb)).1
      subst ek
      exact ⟨c, sd, b, rfl, hc, (mem_halfB.mp hbm).ok ws.ps, ws, fun H6 s6 => k1 H6 s6⟩
    obtain ⟨ps, hpm, rfl, hpw⟩ := hks
    obtain ⟨bs', hbp, rb, hkk⟩ := key_pairs rz hpm
    have hbw := zip_keys hkk hpw
    have hmem : ∀ b ∈ bs', b ∈ halfB sd ∧ inB b.1 b.2 pp = true := fun b hb => List.mem_filter.mp (hbp.mem_iff.mp hb)
    have nS' := same_new (o := .lst (ps.map (·.2))) nS
    have s35 := s5.trans nS'
    have s05 := s03.trans s35
    have td5 := td3.same s35
    have rb5 : Reps (upd H5 S (.lst (ps.map (·.2)))) (bs'.map bxk) (ps.map (·.2)) := rb.mono (Same.tu s35)
    have hS5 : upd H5 S (.lst (ps.map (·.2))) S = some (.lst (ps.map (·.2))) := upd_same
    have hD5 := s35 _ _ hD3
    have fS : H S = none := same_none (s03.trans s5) nS
    have rz5 := rz.mono (Same.tu s35)
    generalize hxs : ps.map (·.2) = xs at rb5 hS5 s35 s05 td5 hD5 rz5
    refine ⟨S, rfl, ⟨xs, .inl (.inl (by first | exact hS5 | (rw [hxs]; exact hS5)))⟩, ?_⟩
    obtain ⟨φ, hφ⟩ := td5.at
    have hSd : S ≠ d := ne_of hS5 hφ (by intro z; cases z)
    have hDd : D ≠ d := ne_of hD5 hφ (by intro z; cases z)
    have tS : ∀ {H6 : Hp}, Off (fun x => x = d) (upd H5 S (.lst xs)) H6 → Tu (upd H5 S (.lst xs)) H6 := fun o => tu_offd hφ o
    have lx : xs.length = bs'.length := by rw [rb5.length, List.length_map]
    refine for_it (walk_list (xs := xs)) (fun i σ H6 => Off (fun x => x = d) (upd H5 S (.lst xs)) H6 ∧ ∃ y6 y7 G, σ = [some (.ref a), some (.ref t), some (.ref e), some (.int n), some (.ref d), some (.ref D), y6, y7] ∧ TD P w H6 d (halfB sd) G ∧ Mixed sd g (chg g pp n) pp (bs'.take i) G)
      ⟨Off.refl _, none, none, TB g, rfl, td5, by rw [List.take_zero]; exact mixed_start ws.ps⟩ (fun i σ H6 _ h => .inl (.inl (h.1 _ _ hSd hS5))) (fun i v σ H6 H7 hi h yy => ?_) (fun σ H6 h => ?_)
    · obtain ⟨o6, y6, y7, G, rfl, td6, mx⟩ := h
      obtain ⟨rfl, gv⟩ := yy
      obtain ⟨k, gk, rk⟩ := rb5.get' gv
      rw [List.getElem?_map] at gk
      obtain ⟨b, gb, rfl⟩ := Option.map_eq_some_iff.mp gk
      obtain ⟨c, rfl, hc⟩ := rep_bx (rk.mono (tS o6))
      obtain ⟨hbh, hbi⟩ := hmem b (List.mem_of_getElem? gb)
      have ok := (mem_halfB.mp hbh).ok ws.ps
      obtain ⟨cl, ch, hc0, hcl, hch⟩ := id hc
      have etake : bs'.take (i + 1) = bs'.take i ++ [b] := by rw [List.take_add_one, gb]; rfl
      have edrop : bs'.take i ++ b :: bs'.drop (i + 1) = bs' := by
        have := List.take_append_drop (i + 1) bs'
        rw [etake] at this
        simpa using this
      refine ⟨.ref c, rfl, c, _, 0, _, rfl, rfl, .inl (.inl hc0), rfl, .ref c, rfl, c, _, 1, _, rfl, rfl, .inl (.inl hc0), rfl, eq_pl hcl hch ⟨_, rfl, ite2 (fun e1 => ?_) (fun e1 => ?_)⟩⟩
      · have e1 : b.1 = b.2 := of_decide_eq_true e1
        refine ⟨_, rfl, _, rfl, _, rfl, small_le (by show 3 ≤ _; decide), fun u nu => ?_⟩
        have su := same_new (o := .tup [V.int n, V.int n, V.int n]) nu
        refine ⟨.ref d, rfl, .ref c, rfl, (td6.same su).put hbh (hc.tu (Same.tu su)) (u := u) (t := (n, n, n)) upd_same (by omega) fun H8 k8 tu8 td8 => ?_⟩
        refine ⟨o6.trans ((same_off su).trans fun x o hx e => k8 x o hx e), _, _, _, rfl, td8, ?_⟩
        rw [etake, ← TB_chg_one okp ok e1 hbi]
        exact mixed_next mx
      · have e1 : b.1 ≠ b.2 := fun z => e1 (decide_eq_true z)
        refine ⟨.ref d, rfl, .ref c, rfl, d, c, sd, G, b, rfl, td6, hc, hbh, e1, ws, fun r H8 k x y s8 wy hr8 => ?_⟩
        rw [mixed_parts ws.ps mx wy (rest := bs'.drop (i + 1)) (by rw [edrop]; exact hbp) (by rw [edrop]; exact hbw)] at hr8
        refine ⟨.ref d, rfl, .ref c, rfl, (td6.same s8).put hbh (hc.tu (Same.tu s8)) hr8 (by omega) fun H9 k9 tu9 td9 => ?_⟩
        refine ⟨o6.trans ((same_off s8).trans fun x o hx e => k9 x o hx e), _, _, _, rfl, td9, ?_⟩
        rw [etake]
        exact mixed_next mx
    · obtain ⟨o6, y6, y7, G, rfl, td6, mx⟩ := h
      rw [lx, List.take_length] at mx
      have hG := mixed_end mx hbp
      have s06 : Same H H6 := off_fresh s05 fd o6
      have hD6 := o6 _ _ hDd hD5
      have rz6 := rz5.mono (tS o6)
      obtain ⟨tv, htv, rtv⟩ := ht.same s06
      refine ⟨.ref t, rfl, t, rfl, ⟨_, .inl (.inl htv)⟩, fun Z hZ => ?_⟩
      refine lc_data (halfB sd) (tabk (TB (chg g pp n))) (walk_list (xs := tv)) (by rw [rtv.length, List.length_map]) (small_le (by rw [rtv.length, List.length_map]; omega)) hZ (fun H' s => .inl (.inl (s _ _ htv))) (fun i b v H7 H8 hb s7 yy Qy kq => ?_) (fun H7 us s7 hZ7 ru => ?_)
      · obtain ⟨rfl, gv⟩ := yy
        obtain ⟨v', gv', rv'⟩ := rtv.get (k := tabk (TB g) b) (by rw [List.getElem?_map, hb]; rfl)
        cases gv.symm.trans gv'
        obtain ⟨c, x, y, rfl, hc, hx, hy⟩ := rep_en (rv'.mono (Same.tu s7))
        have hbm := List.mem_of_getElem? hb
        refine ⟨c, _, rfl, .inl (.inl hc), rfl, _, _, rfl, _, _, rfl, rfl, rfl, ?_⟩
        refine ⟨.ref x, rfl, .ref d, rfl, .ref x, rfl, (td6.same s7).ix hbm hx fun u hu => ⟨small_le (by show 2 ≤ _; decide), fun z nz => ?_⟩⟩
        rw [hG b hbm] at hu
        exact kq _ _ (same_new nz) ⟨z, _, rfl, upd_same, .cons (hx.tu (Tu.new nz)).rep (.cons (hu.tu (Tu.new nz)).rep .nil)⟩
      · refine ⟨.ref D, rfl, small_le (by show 2 ≤ _; decide), fun r nr => ?_⟩
        have sr := same_new (o := .tup [V.ref Z, V.ref D]) nr
        have hZD : Z ≠ D := (ne_of_none hD6 hZ).symm
        exact q r Z D _ ((s06.trans s7).trans sr) upd_same (same_none s06 hZ) fD hZD ⟨us, sr _ _ hZ7, ru.mono (Same.tu sr)⟩ ⟨zs, sr _ _ (s7 _ _ hD6), (rz6.mono (Same.tu s7)).mono (Same.tu sr)⟩
end Bx

set_option Elab.async false
set_option linter.all false
set_option maxRecDepth 100000
set_option maxHeartbeats 1000000
/-! holds_halves, by_halves. -/
namespace Bx
open PySem PySem.Spec PyProof.Rows L2
variable {P : Program} {w : World} {K : PySem.W.Frag} {mg : Str → Option Value} {base : Heap}
def agr (sd : List Int) (f f' : Pl → Int) : Bool := (pls sd).all fun p => decide (f' p = f p)
theorem agr_stR {sd : List Int} (ps : Pos1 sd) (f f' : Pl → Int) : (halfB sd).all (stR f f') = agr sd f f' := by
  unfold agr
  rw [Bool.eq_iff_iff, List.all_eq_true, List.all_eq_true]
  constructor
  · intro h p hp
    have := h (p, p) (mem_halfB.mpr (InH.one (mem_pls.mp hp)))
    unfold stR at this
    rw [if_pos rfl] at this
    exact this
  · intro h b hb
    unfold stR
    split
    · exact h b.1 (mem_pls.mpr ((mem_halfB.mp hb).ok ps).low)
    · rfl
theorem bxk_depths (l : List Box) : NestedKey.depthAll (l.map bxk) + 1 ≤ 64 := by
  have : NestedKey.depthAll (l.map bxk) ≤ 2 := depthAll_le fun k hk => by
    obtain ⟨x, _, rfl⟩ := List.mem_map.mp hk
    exact bxk_depth _
  omega
def sp_holds_halves : Sp := fun vs H Q _ => ∃ (a t : Addr) (sd : List Int) (f f' : Pl → Int), vs = [.ref a, .ref t] ∧ FdAt H a sd f ∧ Ls H t ((halfB sd).map (tabk (TB f'))) ∧ ∀ H', Same H H' → Q (.bl (agr sd f f')) H'
theorem c_holds_halves (T : Tx K mg) : Cal P w K mg base 4 "holds_halves" sp_holds_halves := by
  have C_is_entry := c_is_entry (P := P) (w := w) (base := base) T
  have C_is_box := c_is_box (P := P) (w := w) (base := base) T
  have C_half_boxes := c_half_boxes (P := P) (w := w) (base := base) T
  have C_stands_right := c_stands_right (P := P) (w := w) (base := base) T
  refine cal_of T.d_holds_halves sc_holds_halves (fun vs H Q E h => ?_) (fun f cdv A outer s H vs Q E hr h => ?_)
  · obtain ⟨_, _, _, _, _, rfl, _⟩ := h; rfl
  · obtain ⟨a, t, sd, g, g', rfl, hf, ht, q⟩ := h
    have ws := hf.ws
    have hlen := halfB_len ws
    have nd := halfB_nodup ws.ps
    obtain ⟨fx, fy, hf0, hf1, hf2⟩ := hf.ex
    obtain ⟨tv, htv, rtv⟩ := id ht
    have ltv : tv.length = (halfB sd).length := by rw [rtv.length, List.length_map]
    -- an entry of the table
    have ent : ∀ {H2 : Hp} {i : Nat} {b : Box} {v : V}, Same H H2 → (halfB sd)[i]? = some b → tv[i]? = some v → ∃ c x y, v = .ref c ∧ H2 c = some (.tup [.ref x, .ref y]) ∧ BxAt H2 x b ∧ TrAt H2 y (TB g' b) := fun {H2 i b v} s hb gv => by
      obtain ⟨v', gv', rv'⟩ := rtv.get (k := tabk (TB g') b) (by rw [List.getElem?_map, hb]; rfl)
      cases gv.symm.trans gv'
      exact rep_en (rv'.mono (Same.tu s))
    refine ⟨_, (pss_cons (ps_if (PW.pt (pw_or (pt_not (pt_val (pe_callB call_isi (by rfl) T.z_isinstance (by decide +kernel) (pa_cons (pv 1) (pa_cons (pe_bltn (v := .ty "list") rfl T.z_list (by decide +kernel) rfl) pa_nil))))) (pw_or1 (pt_not (pt_val (pe_callB (cr_all rfl) (by rfl) T.z_all (by decide +kernel) (pa_cons (pe_lc (own := [("entry", 4)]) (g := (gName 4)) (tt := tYes) rfl sc_holds_halves.nd (pi_list (pv 1)) (blkOk_by (N := ["field", "thing", "boxes", "known", "entry", "box"]) (sc := defScope s_holds_halves) (by decide +kernel)) (fun _ _ _ _ _ => (pg_name (i := 4) sc_holds_halves.nd rfl (Or.inl rfl))) (fun _ _ _ _ _ => pts_nil) (fun _ _ _ _ _ => (pe_c C_is_entry hr (by decide) (by rfl) (pa_cons (pv 4) pa_nil)))) pa_nil))))))) (pss_one (ps_ret pe_bl)) pss_nil)
      (pss_cons (ps_if (pt_not (pt_val (pe_callB (cr_all rfl) (by rfl) T.z_all (by decide +kernel) (pa_cons (pe_lc (own := [("entry", 4)]) (g := (gName 4)) (tt := tYes) rfl sc_holds_halves.nd (pi_list (pv 1)) (blkOk_by (N := ["field", "thing", "boxes", "known", "entry", "box"]) (sc := defScope s_holds_halves) (by decide +kernel)) (fun _ _ _ _ _ => (pg_name (i := 4) sc_holds_halves.nd rfl (Or.inl rfl))) (fun _ _ _ _ _ => pts_nil) (fun _ _ _ _ _ => (pe_c C_is_box hr (by decide) (by rfl) (pa_cons (pe_ix (ix_tup : IxR _ (rIxT K)) (pv 0) pe_int (fun _ _ => rfl)) (pa_cons (pe_ix (ix_tup : IxR _ (rIxT K)) (pv 4) pe_int (fun _ _ => rfl)) pa_nil))))) pa_nil)))) (pss_one (ps_ret pe_bl)) pss_nil)
      (pss_cons (ps_setLc (i := 2) (own := [("entry", 4)]) (g := (gName 4)) (tt := tYes) rfl sc_holds_halves.nd rfl rfl (sw_true rfl rfl rfl (by decide +kernel)) (pi_list (pv 1)) (blkOk_by (N := ["field", "thing", "boxes", "known", "entry", "box"]) (sc := defScope s_holds_halves) (by decide +kernel)) (fun _ _ _ _ _ => (pg_name (i := 4) sc_holds_halves.nd rfl (Or.inl rfl))) (fun _ _ _ _ _ => pts_nil) (fun _ _ _ _ _ => (pe_ix (ix_tup : IxR _ (rIxT K)) (pv 4) pe_int (fun _ _ => rfl))))
      (pss_cons (ps_if (pt_cmpR (op_neK (hu64 hr) : OpR _ (compareOp .NotEq) (rNeK K)) (pv 2) (pe_c C_half_boxes hr (by decide) (by rfl) (pa_cons (pe_ix (ix_tup : IxR _ (rIxT K)) (pv 0) pe_int (fun _ _ => rfl)) pa_nil)) (nomark _)) (pss_one (ps_ret pe_bl)) pss_nil)
      (pss_cons (ps_set (i := 3) sc_holds_halves.nd rfl (Or.inr rfl) (pe_callTy (call_dictL rfl (hu16 hr)) (by rfl) T.z_dict (by decide +kernel) (pa_cons (pv 1) pa_nil)))
      (pss_one (ps_ret (pe_callB (cr_all rfl) (by rfl) T.z_all (by decide +kernel) (pa_cons (pe_lc (own := [("box", 5)]) (g := (gName 5)) (tt := tYes) rfl sc_holds_halves.nd (pi_list (pv 2)) (blkOk_by (N := ["field", "thing", "boxes", "known", "entry", "box"]) (sc := defScope s_holds_halves) (by decide +kernel)) (fun _ _ _ _ _ => (pg_name (i := 5) sc_holds_halves.nd rfl (Or.inl rfl))) (fun _ _ _ _ _ => pts_nil) (fun _ _ _ _ _ => (pe_c C_stands_right hr (by decide) (by rfl) (pa_cons (pv 0) (pa_cons (pv 3) (pa_cons (pv 5) pa_nil)))))) pa_nil))))))))), ?_⟩
    refine ⟨.ref t, rfl, .ref t, .ty "list", _, _, true, rfl, .ty _, .base (.lst htv), kit_ty (by decide +kernel), true, rfl, iteF ?_⟩
    refine ⟨.ref t, rfl, t, rfl, ⟨_, .inl (.inl htv)⟩, fun D1 hD1 => ?_⟩
    refine lc_vals (halfB sd) (fun _ => .bl true) (walk_list (xs := tv)) ltv.symm (small_le (by omega)) hD1 (fun H' s => .inl (.inl (s _ _ htv))) (fun i b v H3 H4 hb s3 yy Qy k => ?_) (fun H1 s1 hd1 => ?_)
    · obtain ⟨rfl, gv⟩ := yy
      obtain ⟨c, x, y, rfl, hc, hx, hy⟩ := ent s3 hb gv
      exact ⟨rfl, .ref c, rfl, c, x, y, _, rfl, hc, hy, fun H5 s5 => k _ s5⟩
    refine ⟨D1, (halfB sd).map fun _ => true, rfl, .inl (.inl (by rw [hd1, List.map_map]; rfl)), true, ?_, iteF ?_⟩
    · exact congrArg V.bl (by simp)
    -- not all([is_box ..])
    have htv1 := s1 _ _ htv
    refine ⟨.ref t, rfl, t, rfl, ⟨_, .inl (.inl htv1)⟩, fun D2 hD2 => ?_⟩
    refine lc_vals (halfB sd) (fun _ => .bl true) (walk_list (xs := tv)) ltv.symm (small_le (by omega)) hD2 (fun H' s => .inl (.inl (s _ _ htv1))) (fun i b v H3 H4 hb s3 yy Qy k => ?_) (fun H2 s2 hd2 => ?_)
    · obtain ⟨rfl, gv⟩ := yy
      have s13 := s1.trans s3
      obtain ⟨c, x, y, rfl, hc, hx, hy⟩ := ent s13 hb gv
      have ok := (mem_halfB.mp (List.mem_of_getElem? hb)).ok ws.ps
      exact ⟨rfl, .ref a, rfl, a, _, 0, _, rfl, rfl, .inl (.inl (s13 _ _ hf0)), rfl, .ref c, rfl, c, _, 0, _, rfl, rfl, .inl (.inl hc), rfl, fx, x, sd, b, rfl, hf1.tu (Same.tu s13), hx, ok, ws, fun H5 s5 => k _ s5⟩
    refine ⟨D2, (halfB sd).map fun _ => true, rfl, .inl (.inl (by rw [hd2, List.map_map]; rfl)), true, ?_, iteF ?_⟩
    · exact congrArg V.bl (by simp)
    -- boxes
    have s02 := s1.trans s2
    have htv2 := s02 _ _ htv
    refine ⟨.ref t, rfl, t, rfl, ⟨_, .inl (.inl htv2)⟩, fun D3 hD3 => ?_⟩
    refine lc_data (halfB sd) bxk (walk_list (xs := tv)) ltv.symm (small_le (by omega)) hD3 (fun H' s => .inl (.inl (s _ _ htv2))) (fun i b v H4 H5 hb s4 yy Qy k => ?_) (fun H3 zs s3 hd3 rz => ?_)
    · obtain ⟨rfl, gv⟩ := yy
      obtain ⟨c, x, y, rfl, hc, hx, hy⟩ := ent (s02.trans s4) hb gv
      exact ⟨rfl, .ref c, rfl, c, _, 0, _, rfl, rfl, .inl (.inl hc), rfl, k _ _ (Same.refl _) hx.rep⟩
    have s03 := s02.trans s3
    -- the boxes are the half boxes
    refine ⟨.ref D3, rfl, .ref a, rfl, a, _, 0, _, rfl, rfl, .inl (.inl (s03 _ _ hf0)), rfl, fx, sd, rfl, hf1.tu (Same.tu s03), ws, fun L H4 s4 fL lL => ?_⟩
    obtain ⟨ls, hL, rL⟩ := lL
    have s04 := s03.trans s4
    have hd4 := s4 _ _ hd3
    have rz4 := rz.mono (Same.tu s4)
    refine ⟨.inl ((halfB sd).map bxk), .inl ((halfB sd).map bxk), .lst (.inl (.inl hd4)) rz4, .lst (.inl (.inl hL)) rL, bxk_depths _, bxk_depths _, _, rfl, ?_⟩
    rw [decide_eq_true rfl]
    refine iteF ?_
    -- known = dict(thing)
    obtain ⟨eys, ees, de1, de2, de3, de4⟩ := dict_pre (P := P) (w := w) (ht.same s04) nd (by omega)
    refine ⟨.ref t, rfl, t, eys, ees, rfl, .inl (.inl de1), de2, de3, fun d fd DD => ?_⟩
    have td := de4 d fd DD
    have s5 := same_new (o := DnO P w d ees) fd
    have s05 := s04.trans s5
    refine ⟨.ref D3, rfl, D3, rfl, ⟨_, .inl (.inl (s5 _ _ hd4))⟩, fun D6 hD6 => ?_⟩
    refine lc_vals (halfB sd) (fun b => .bl (stR g g' b)) (walk_list (xs := zs)) (by rw [rz.length, List.length_map]) (small_le (by rw [rz.length, List.length_map]; omega)) hD6 (fun H' s => .inl (.inl (s _ _ (s5 _ _ hd4)))) (fun i b v H7 H8 hb s7 yy Qy k => ?_) (fun H7 s7 hd7 => ?_)
    · obtain ⟨rfl, gv⟩ := yy
      obtain ⟨v', gv', rv'⟩ := rz4.get (k := bxk b) (by rw [List.getElem?_map, hb]; rfl)
      cases gv.symm.trans gv'
      obtain ⟨c, rfl, hc⟩ := rep_bx ((rv'.mono (Same.tu s5)).mono (Same.tu s7))
      exact ⟨rfl, .ref a, rfl, .ref d, rfl, .ref c, rfl, a, d, c, sd, g, g', b, rfl, (hf.tu (Same.tu s05)).tu (Same.tu s7), td.same s7, hc, List.mem_of_getElem? hb, fun H9 s9 => k _ s9⟩
    · refine ⟨D6, (halfB sd).map (stR g g'), rfl, .inl (.inl (by rw [hd7, List.map_map]; rfl)), by_eq (congrArg V.bl ?_) (q _ (s05.trans s7))⟩
      rw [List.all_map, ← agr_stR ws.ps]; rfl

def sp_by_halves : Sp := fun vs H Q _ => ∃ (a t c : Addr) (sd : List Int) (f : Pl → Int) (b : Box), vs = [.ref a, .ref t, .ref c] ∧ PlAt H a sd ∧ Ls H t ((halfB sd).map (tabk (TB f))) ∧ BxAt H c b ∧ OkB sd b.1 b.2 ∧ WS sd ∧ ∀ r H', Same H H' → TrAt H' r (TB f b) → Q (.ref r) H'
theorem c_by_halves (T : Tx K mg) : Cal P w K mg base 4 "by_halves" sp_by_halves := by
  have C_box_cover := c_box_cover (P := P) (w := w) (base := base) T
  have C_joined := c_joined (P := P) (w := w) (base := base) T
  refine cal_of T.d_by_halves sc_by_halves (fun vs H Q E h => ?_) (fun f cdv A outer s H vs Q E hr h => ?_)
  · obtain ⟨_, _, _, _, _, _, rfl, _⟩ := h; rfl
  · obtain ⟨a, t, c, sd, g, b, rfl, ha, ht, hc, ok, ws, q⟩ := h
    have hlen := halfB_len ws
    have nd := halfB_nodup ws.ps
    have hbl : (bcov sd b).length ≤ 343 := by
      unfold bcov bsort
      rw [(srt_perm _ _).length_eq, prodR_count]
      exact Nat.le_trans (covs_ok ws.ps ws.sm ok).2.2 ws.hf
    obtain ⟨b0, bs, hb0, hfold⟩ := by_cover ws.ps ok g
    refine ⟨_, (pss_cons (ps_set (i := 3) sc_by_halves.nd rfl (Or.inr rfl) (pe_callTy (call_dictL rfl (hu16 hr)) (by rfl) T.z_dict (by decide +kernel) (pa_cons (pv 1) pa_nil)))
      (pss_cons (ps_setLc (i := 4) (own := [("one", 6)]) (g := (gName 6)) (tt := tYes) rfl sc_by_halves.nd rfl rfl (sw_true rfl rfl rfl (by decide +kernel)) (pi_list (pe_c C_box_cover hr (by decide) (by rfl) (pa_cons (pv 0) (pa_cons (pv 2) pa_nil)))) (blkOk_by (N := ["sides", "table", "box", "known", "some", "found", "one"]) (sc := defScope s_by_halves) (by decide +kernel)) (fun _ _ _ _ _ => (pg_name (i := 6) sc_by_halves.nd rfl (Or.inl rfl))) (fun _ _ _ _ _ => pts_nil) (fun _ _ _ _ _ => (pe_ix (ix_dn (hu16 hr) : IxR _ (rIxN P w)) (pv 3) (pv 6) (fun _ _ => rfl))))
      (pss_cons (ps_set (i := 5) sc_by_halves.nd rfl (Or.inl rfl) (pe_ix (ix_list : IxR _ (rIxL K)) (pv 4) pe_int (fun _ _ => rfl)))
      (pss_cons (ps_for PassesOwn.never rfl (pi_list (pe_slice sl_list (pv 4) (po_some pe_int) po_none)) (pg_name (i := 6) sc_by_halves.nd rfl (Or.inl rfl)) (pss_one (ps_set (i := 5) sc_by_halves.nd rfl (Or.inl rfl) (pe_c C_joined hr (by decide) (by rfl) (pa_cons (pv 5) (pa_cons (pv 6) pa_nil))))))
      (pss_one (ps_ret (pv 5))))))), ?_⟩
    obtain ⟨eys, ees, de1, de2, de3, de4⟩ := dict_pre (P := P) (w := w) ht nd (by omega)
    refine ⟨.ref t, rfl, t, eys, ees, rfl, .inl (.inl de1), de2, de3, fun d fd DD => ?_⟩
    have td := de4 d fd DD
    have s1 := same_new (o := DnO P w d ees) fd
    refine ⟨.ref a, rfl, .ref c, rfl, a, c, sd, b, rfl, ha.tu (Same.tu s1), hc.tu (Same.tu s1), ws, ok, fun L H2 s2 fL lL => ?_⟩
    obtain ⟨fs, hL, rL⟩ := lL
    have s02 := s1.trans s2
    have td2 := td.same s2
    refine ⟨L, rfl, ⟨_, .inl (.inl hL)⟩, fun D hD => ?_⟩
    refine lc_data (bcov sd b) (fun b => trk (TB g b)) (walk_list (xs := fs)) (by rw [rL.length, List.length_map]) (small_le (by rw [rL.length, List.length_map]; omega)) hD (fun H' s => .inl (.inl (s _ _ hL))) (fun i b' v H4 H5 hb s4 yy Qy k => ?_) (fun H3 zs s3 hd3 rz => ?_)
    · obtain ⟨rfl, gv⟩ := yy
      obtain ⟨v', gv', rv'⟩ := rL.get (k := bxk b') (by rw [List.getElem?_map, hb]; rfl)
      cases gv.symm.trans gv'
      obtain ⟨e, rfl, he⟩ := rep_bx (rv'.mono (Same.tu s4))
      exact ⟨rfl, .ref d, rfl, .ref e, rfl, (td2.same s4).ix (bcov_half ws.ps ok (List.mem_of_getElem? hb)) he fun u hu => k _ _ (Same.refl _) hu.rep⟩
    have s03 := s02.trans s3
    rw [hb0] at rz
    obtain ⟨v0, r0, ez, hv0, hr0⟩ := rz
    subst ez
    obtain ⟨u0, rfl, hu0⟩ := rep_tr hv0
    refine ⟨.ref D, rfl, D, _, 0, .ref u0, rfl, rfl, .inl (.inl hd3), atI_nat (j := 0) rfl, ?_⟩
    refine ⟨.ref D, rfl, 1, rfl, ?_⟩
    unfold tNoPart
    refine ⟨D, _, rfl, .inl (.inl hd3), fun Z hZ => ?_⟩
    have sZ := same_new (o := .lst (cutV (V.ref u0 :: r0) (some 1) none)) hZ
    have ec : cutV (V.ref u0 :: r0) (some 1) none = r0 := by
      unfold cutV
      rw [HT.sIx_none, show HT.sIx (V.ref u0 :: r0).length 0 (some 1) = min 1 (V.ref u0 :: r0).length from HT.sIx_nat _ _ 1]
      rw [show min 1 (V.ref u0 :: r0).length = 1 by rw [List.length_cons]; omega]
      show List.take ((V.ref u0 :: r0).length - 1) r0 = r0
      rw [List.length_cons, Nat.add_sub_cancel, List.take_length]
    have hZ2 : upd H3 Z (.lst (cutV (V.ref u0 :: r0) (some 1) none)) Z = some (.lst r0) := by rw [upd_same, ec]
    have lr : r0.length = bs.length := by rw [hr0.length, List.length_map]
    refine ⟨Z, rfl, ⟨_, .inl (.inl hZ2)⟩, ?_⟩
    refine for_it (walk_list (xs := r0)) (fun i σ H4 => Same (upd H3 Z (.lst (cutV (V.ref u0 :: r0) (some 1) none))) H4 ∧ ∃ u y6, σ = [some (.ref a), some (.ref t), some (.ref c), some (.ref d), some (.ref D), some (.ref u), y6] ∧ TrAt H4 u ((bs.take i).foldl (fun t b => joinT t (TB g b)) (TB g b0)))
      ⟨Same.refl _, u0, none, rfl, hu0.tu (Same.tu sZ)⟩ (fun i σ H4 _ h => .inl (.inl (h.1 _ _ hZ2))) (fun i v σ H4 H5 hi h yy => ?_) (fun σ H4 h => ?_)
    · obtain ⟨s4, u, y6, rfl, hu⟩ := h
      obtain ⟨rfl, gv⟩ := yy
      have hi2 : i < bs.length := by omega
      have gb := List.getElem?_eq_getElem hi2
      obtain ⟨v', gv', rv'⟩ := hr0.get (k := trk (TB g bs[i])) (by rw [List.getElem?_map, gb]; rfl)
      cases gv.symm.trans gv'
      obtain ⟨e, rfl, he⟩ := rep_tr ((rv'.mono (Same.tu sZ)).mono (Same.tu s4))
      refine ⟨.ref u, rfl, .ref e, rfl, u, e, _, _, rfl, hu, he, fun z H6 s6 hz => ⟨s4.trans s6, z, _, rfl, ?_⟩⟩
      rw [List.take_add_one, gb, List.foldl_append]
      exact hz
    · obtain ⟨s4, u, y6, rfl, hu⟩ := h
      rw [lr, List.take_length, hfold] at hu
      exact ⟨.ref u, rfl, q u _ ((s03.trans sZ).trans s4) hu⟩
end Bx

set_option Elab.async false
set_option linter.all false
set_option maxRecDepth 100000
set_option maxHeartbeats 1000000
/-! _law_places, _law_within, _law_has, _law_most, _law_due, _law_answer. -/
namespace Bx
open PySem PySem.Spec PyProof.Rows L2
variable {P : Program} {w : World} {K : PySem.W.Frag} {mg : Str → Option Value} {base : Heap}
def sp__law_places : Sp := fun vs H Q _ => ∃ (a : Addr) (sd : List Int), vs = [.ref a] ∧ PlAt H a sd ∧ WS sd ∧ ∀ p H', Same H H' → H p = none → Ls H' p ((pls sd).map plc) → Q (.ref p) H'
theorem c__law_places (T : Tx K mg) : Cal P w K mg base 1 "_law_places" sp__law_places := by
  refine cal_of T.d__law_places sc__law_places (fun vs H Q E h => ?_) (fun f cdv A outer s H vs Q E hr h => ?_)
  · obtain ⟨_, _, rfl, _⟩ := h; rfl
  · obtain ⟨a, sd, rfl, ha, ws, q⟩ := h
    have hle : ∀ r ∈ sd.map (fun s => ((0 : Int), s - 1)), r.1 ≤ r.2 := fun r hr => by
      obtain ⟨s, hs, rfl⟩ := List.mem_map.mp hr
      have := ws.ps s hs
      show (0 : Int) ≤ s - 1
      omega
    have hN : (pb (sd.map fun s => ((0 : Int), s - 1))).length ≤ 120 := by
      have := pls_len sd
      unfold pls at this
      rw [this]; exact ws.n
    refine ⟨_, (pss_cons (ps_set (i := 1) sc__law_places.nd rfl (Or.inl rfl) (pe_lst (pa_cons (pe_tup pa_nil) pa_nil)))
      (pss_cons (ps_for PassesOwn.never rfl (pi_tup (pv 0)) (pg_name (i := 2) sc__law_places.nd rfl (Or.inl rfl)) (pss_cons (ps_set (i := 3) sc__law_places.nd rfl (Or.inl rfl) (pe_lst pa_nil))
      (pss_cons (ps_for PassesOwn.never rfl (pi_list (pv 1)) (pg_name (i := 4) sc__law_places.nd rfl (Or.inr rfl)) (pss_one (ps_expr (pe_bm PySem.F.plainAttrs_list PySem.F.slot_list_extend PySem.F.type_list_extend mt_extend (pv 3) (pa_cons (pe_lc (own := [("_law_number_here", 5)]) (g := (gName 5)) (tt := tYes) rfl sc__law_places.nd (pi_range1 (by rfl) T.z_range (pa_cons (pv 2) pa_nil)) (blkOk_by (N := ["_law_sides_here", "_law_found", "_law_side", "_law_longer", "_law_place", "_law_number_here"]) (sc := defScope s__law_places) (by decide +kernel)) (fun _ _ _ _ _ => (pg_name (i := 5) sc__law_places.nd rfl (Or.inl rfl))) (fun _ _ _ _ _ => pts_nil) (fun _ _ _ _ _ => (pe_op (op_catA : OpR _ (binaryOp .Add) (rCatA K)) (pv 4) (pe_tup (pa_cons (pv 5) pa_nil))))) pa_nil)))))
      (pss_one (ps_set (i := 1) sc__law_places.nd rfl (Or.inl rfl) (pv 3))))))
      (pss_one (ps_ret (pv 1))))), ?_⟩
    refine ⟨Nat.zero_le _, fun e0 ne0 => ⟨small_le (by show 1 ≤ _; decide), fun L nL => ?_⟩⟩
    have sL : Same H (upd (upd H e0 (.tup [])) L (.lst [.ref e0])) := same_fresh (same_none (same_new ne0) nL) (same_new ne0)
    have fL : H L = none := same_none (same_new ne0) nL
    have e0L : e0 ≠ L := ne_of_none (upd_same) nL
    have r0 : Reps (upd (upd H e0 (.tup [])) L (.lst [.ref e0])) (([[]] : List Pl).map plc) [.ref e0] := .cons ⟨e0, [], rfl, by rw [upd_ne e0L, upd_same], .nil⟩ .nil
    refine ⟨.ref a, rfl, a, rfl, ⟨_, .inl (.inl (sL _ _ ha))⟩, ?_⟩
    refine for_it (walk_tup (xs := sd.map V.int)) (fun i σ H1 => Same H H1 ∧ ∃ L y2 y3 y4 y5, σ = [some (.ref a), some (.ref L), y2, y3, y4, y5] ∧ H L = none ∧ Ls H1 L ((pb ((sd.map fun s => ((0 : Int), s - 1)).take i)).map plc)) ⟨sL, L, none, none, none, none, rfl, fL, _, upd_same, r0⟩ (fun i σ H' _ h => .inl (.inl (h.1 _ _ ha))) (fun i v σ H1 H2 hi' h y => ?_) (fun σ H1 h => ?_)
    · obtain ⟨s1, L, y2, y3, y4, y5, rfl, fL, fs, hL, rL⟩ := h
      rw [List.length_map] at hi'
      have g := List.getElem?_eq_getElem hi'
      obtain ⟨rfl, rfl⟩ := yat_map y g
      have hm := List.mem_of_getElem? g
      generalize sd[i] = sx at g hm
      have h1 := ws.ps sx hm
      have h2 := ws.sm sx hm
      refine ⟨Nat.zero_le _, fun M nM => ?_⟩
      have fM : H1 M = none := nM
      have sM : Same H1 (upd H1 M (.lst [])) := same_new nM
      have hstep : pb ((sd.map fun s => ((0 : Int), s - 1)).take (i + 1)) = pbStep (pb ((sd.map fun s => ((0 : Int), s - 1)).take i)) (0, sx - 1) := by
        rw [List.take_add_one, List.getElem?_map, g]; exact pb_snoc _ _
      have hfull : (pbStep (pb ((sd.map fun s => ((0 : Int), s - 1)).take i)) (0, sx - 1)).length ≤ 120 := by rw [← hstep]; exact Nat.le_trans (pb_take hle _) hN
      refine ⟨.ref L, rfl, L, rfl, ⟨fs, .inl (.inl (sM _ _ hL))⟩, ?_⟩
      refine for_it (walk_list (xs := fs)) (fun j σ H2 => Same H1 H2 ∧ ∃ y4 y5, σ = [some (.ref a), some (.ref L), some (.int sx), some (.ref M), y4, y5] ∧ Ls H2 M ((pbStep ((pb ((sd.map fun s => ((0 : Int), s - 1)).take i)).take j) (0, sx - 1)).map plc))
        ⟨sM, y4, y5, rfl, [], upd_same, .nil⟩ (fun j σ H2 _ h => .inl (.inl (h.1 _ _ hL))) (fun j x σ H2 H3 hj h yj => ?_) (fun σ H2 h => ?_)
      · obtain ⟨s2, y4, y5, rfl, ms, hM, rM⟩ := h
        obtain ⟨rfl, gx⟩ := yj
        obtain ⟨k, gk, rk⟩ := rL.get' gx
        rw [List.getElem?_map] at gk
        obtain ⟨p, gp, rfl⟩ := Option.map_eq_some_iff.mp gk
        obtain ⟨pa, rfl, hp⟩ := rep_pl (rk.mono (Same.tu s2))
        have hpl : p.length ≤ 3 := by
          rw [pb_mem_len (List.mem_of_getElem? gp), List.length_take, List.length_map]
          have := ws.len
          omega
        refine ⟨.ref M, rfl, .inl ⟨rfl, _, .inl (.inl hM)⟩, ?_⟩
        refine ⟨.int sx, rfl, sx, rfl, by omega, by omega, fun D hD => ?_⟩
        refine lc_data (rg 0 (sx - 1)) (fun z => plc (p ++ [z])) walk_range0 (by rw [rg_len]; congr 1; omega) (small_le (by omega)) hD (fun _ _ => trivial) (fun m z v H4 H5 hz s4 yz Qy kq => ?_) (fun H4 zs s4 hD4 rz => ?_)
        · obtain ⟨rfl, rfl⟩ := yz
          have hm : m < (sx - 1 + 1 - 0).toNat := by rw [← rg_len]; exact (List.getElem?_eq_some_iff.mp hz).1
          rw [rg_get hm, Int.zero_add] at hz
          cases hz
          refine ⟨rfl, .ref pa, rfl, .int (m : Int), rfl, small_le (by show 1 ≤ _; decide), fun t nt => ?_⟩
          have st := same_new (o := .tup [V.int (m : Int)]) nt
          exact cat_pl (p := p) (q := [(m : Int)]) ((hp.tu (Same.tu s4)).tu (Same.tu st)) (by unfold PlAt; rw [upd_same]; rfl) (by simp; omega) fun c H6 s6 h6 => kq _ _ (st.trans s6) h6.rep
        · have hM4 := s4 _ _ hM
          have ej : pbStep ((pb ((sd.map fun s => ((0 : Int), s - 1)).take i)).take (j + 1)) (0, sx - 1) = pbStep ((pb ((sd.map fun s => ((0 : Int), s - 1)).take i)).take j) (0, sx - 1) ++ (rg 0 (sx - 1)).map fun x => p ++ [x] := by
            rw [List.take_add_one, gp]
            simp [pbStep]
          have hlen : (pbStep ((pb ((sd.map fun s => ((0 : Int), s - 1)).take i)).take (j + 1)) (0, sx - 1)).length ≤ 120 := Nat.le_trans (flatMap_take _ _ _) hfull
          refine ⟨M, D, ms, zs, rfl, rfl, hM4, hD4, ?_, ?_⟩
          · rw [ej, List.length_append] at hlen
            rw [rM.length, rz.length, List.length_map, List.length_map]
            refine small_le ?_
            rw [List.length_map] at hlen
            omega
          · refine ⟨same_fresh fM (s2.trans s4), _, _, rfl, ms ++ zs, upd_same, ?_⟩
            rw [ej, List.map_append, List.map_map]
            exact Reps.append ((rM.mono (Same.tu s4)).mono (Tu.lst hM4)) (rz.mono (Tu.lst hM4))
      · obtain ⟨s2, y4, y5, rfl, ms, hM, rM⟩ := h
        rw [rL.length, List.length_map, List.take_length] at rM
        exact ⟨_, rfl, s1.trans s2, M, _, _, _, _, rfl, same_none s1 fM, ms, hM, by rw [hstep]; exact rM⟩
    · obtain ⟨s1, L, y2, y3, y4, y5, rfl, fL, hL⟩ := h
      rw [List.take_of_length_le (by rw [List.length_map, List.length_map]; exact Nat.le_refl _)] at hL
      exact ⟨_, rfl, q L _ s1 fL hL⟩

/-! the dict of the cells -/
def KD (P : Program) (w : World) (H : Hp) (d : Addr) (sd : List Int) (f : Pl → Int) : Prop :=
  ∃ es, Dn P w H d es ∧ es.map (·.1) = (pls sd).map plc ∧ es.map (fun x => x.2.2) = (pls sd).map fun p => V.int (f p)
theorem KD.same {H H' : Hp} {d : Addr} {sd : List Int} {f : Pl → Int} (t : KD P w H d sd f) (s : Same H H') : KD P w H' d sd f := by
  obtain ⟨es, D, e, r⟩ := t
  exact ⟨es, D.same s, e, r⟩
theorem or_out {i j k : Nat} {σ : L2.St} {H : Hp} {Q : Bool → Hp → Prop} {a x b : Int} (ha : σ[i]? = some (some (.int a))) (hx : σ[j]? = some (some (.int x))) (hb : σ[k]? = some (some (.int b)))
    (q : Q (decide (x < a) || decide (b < x)) H) : tOr (tTest (tOp (rI0 fun i j => V.bl (decide (i < j))) (tVar j) (tVar i))) (tTest (tOp (rI0 fun i j => V.bl (decide (j < i))) (tVar j) (tVar k))) σ H Q := by
  refine ⟨_, hx, _, ha, x, a, rfl, rfl, _, rfl, ?_⟩
  cases h : decide (x < a) with
  | true =>
    rw [h, Bool.true_or] at q
    exact iteT q
  | false =>
    rw [h, Bool.false_or] at q
    exact iteF ⟨_, hx, _, hb, x, b, rfl, rfl, _, rfl, q⟩
def outB (q : Int × Int × Int) : Bool := decide (q.2.1 < q.1) || decide (q.2.2 < q.2.1)
theorem out_nil {lo p hi : Pl} (l1 : lo.length = p.length) (l2 : hi.length = p.length) : decide ((lo.zip (p.zip hi)).filter outB = []) = inB lo hi p := by
  rw [inB_zip l1 l2, Bool.eq_iff_iff, List.all_eq_true, decide_eq_true_iff, List.filter_eq_nil_iff]
  refine forall_congr' fun q => forall_congr' fun _ => ?_
  unfold outB
  simp
def sp__law_has : Sp := sp_has_place
theorem c__law_has (T : Tx K mg) : Cal P w K mg base 1 "_law_has" sp_has_place := by
  refine cal_of T.d__law_has sc__law_has (fun vs H Q E h => ?_) (fun f cdv A outer s H vs Q E hr h => ?_)
  · obtain ⟨_, _, _, _, rfl, _⟩ := h; rfl
  · obtain ⟨c, e, b, p, rfl, ⟨lx, hx, hc, hlo, hhi⟩, he, l1, l2, l3, q⟩ := h
    refine ⟨_, (pss_one (ps_ret (pe_cmpR (op_eqK (hu64 hr) : OpR _ (compareOp .Eq) (rEqK K)) (pe_lc (own := [("_law_a", 2), ("_law_p", 3), ("_law_b", 4)]) (g := (gTup K 3 (gCons (gName 2) (gCons (gName 3) (gCons (gName 4) gNil))))) rfl sc__law_has.nd (pi_zip3 (by rfl) T.z_zip (pa_cons (pe_ix (ix_tup : IxR _ (rIxT K)) (pv 0) pe_int (fun _ _ => rfl)) (pa_cons (pv 1) (pa_cons (pe_ix (ix_tup : IxR _ (rIxT K)) (pv 0) pe_int (fun _ _ => rfl)) pa_nil)))) (blkOk_by (N := ["_law_box_here", "_law_place", "_law_a", "_law_p", "_law_b"]) (sc := defScope s__law_has) (by decide +kernel)) (fun _ _ _ _ _ => (pg_tup rfl (pgs_cons (pg_name (i := 2) sc__law_has.nd rfl (Or.inl rfl)) (pgs_cons (pg_name (i := 3) sc__law_has.nd rfl (Or.inl rfl)) (pgs_cons (pg_name (i := 4) sc__law_has.nd rfl (Or.inl rfl)) pgs_nil))))) (fun _ _ _ _ _ => (pts_one (PW.pt (pw_or (pt_cmpR op_lt (pv 3) (pv 2) (nomark _)) (pw_or1 (pt_cmpR op_gt (pv 3) (pv 4) (nomark _))))))) (fun _ _ _ _ _ => pe_int)) (pe_lst pa_nil) (nomark _)))), ?_⟩
    refine ⟨_, rfl, c, _, 0, _, rfl, rfl, .inl (.inl hc), rfl, _, rfl, _, rfl, c, _, 1, _, rfl, rfl, .inl (.inl hc), rfl, ?_⟩
    refine ⟨(true, lx, b.1.map V.int), (true, e, p.map V.int), (true, hx, b.2.map V.int), p.length, rfl, src_pl hlo, src_pl he, src_pl hhi, by simp [l1], by simp, by simp [l2], fun D hD => ?_⟩
    refine lc_dataIf (b.1.zip (p.zip b.2)) outB (fun _ => .num 1) walk_src (by rw [List.length_zip, List.length_zip, l1, l2, Nat.min_self, Nat.min_self]) (small_le (by omega)) hD (fun H' s => srcs3 (src_pl (hlo.tu (Same.tu s))) (src_pl (he.tu (Same.tu s))) (src_pl (hhi.tu (Same.tu s)))) (fun i r v H1 H2 hr s1 yy Qy Qn kt kf => ?_) (fun H' zs s1 hd rz => ?_)
    · obtain ⟨g1, g2⟩ := zip_get hr
      obtain ⟨g2, g3⟩ := zip_get g2
      obtain ⟨t, rfl, nt, rfl⟩ := ytup3 yy (get_int g1) (get_int g2) (get_int g3)
      refine ⟨t, _, rfl, .inl (.inl upd_same), rfl, _, _, rfl, _, _, rfl, _, _, rfl, rfl, rfl, or_out rfl rfl rfl ?_⟩
      refine ite2 (fun e => kt e _ _ (same_new nt) rfl) (fun e => kf (Bool.eq_false_iff.mpr e) _ (same_new nt))
    · refine ⟨Nat.zero_le _, fun Z nZ => ?_⟩
      have sZ := same_new (o := .lst []) nZ
      refine ⟨.inl (((b.1.zip (p.zip b.2)).filter outB).map fun _ => .num 1), .inl [], .lst (.inl (.inl (sZ _ _ hd))) (rz.mono (Same.tu sZ)), .lst (.inl (.inl upd_same)) .nil, ?_, by decide, by_eq (congrArg V.bl ?_) (q _ (s1.trans sZ))⟩
      · show NestedKey.depthAll _ + 1 ≤ 64
        have : NestedKey.depthAll (((b.1.zip (p.zip b.2)).filter outB).map fun _ => NestedKey.num 1) ≤ 0 := depthAll_le fun k hk => by
          obtain ⟨x, _, rfl⟩ := List.mem_map.mp hk
          exact Nat.le_refl _
        omega
      · rw [← out_nil l1 l2]
        exact decide_eq_decide.mpr ⟨fun z => List.map_eq_nil_iff.mp (Sum.inl.inj z), fun z => by rw [z]; rfl⟩
theorem same_unlock {H H2 : Hp} {d L : Addr} {u : HO} {od : Obj} (hd : H d = some u) (fL : H L = none) (o : Off (fun x => x = L) (upd (upd H L (.lst [])) d (.frz od u)) H2) : Same H (upd H2 d u) := fun b x e => by
  have bL : b ≠ L := ne_of_none e fL
  by_cases hb : b = d
  · subst hb
    rw [upd_same, ← hd, e]
  · rw [upd_ne hb]
    exact o b x bL (by rw [upd_ne hb, upd_ne bL]; exact e)
def sp__law_within (P : Program) (w : World) : Sp := fun vs H Q _ => ∃ (d x y : Addr) (sd : List Int) (f : Pl → Int) (b : Box), vs = [.ref d, .ref x, .ref y] ∧ KD P w H d sd f ∧ PlAt H x b.1 ∧ PlAt H y b.2 ∧ OkB sd b.1 b.2 ∧ WS sd ∧
  ∀ p H', Same H H' → H p = none → H' p = some (.lst (((cells b).map f).map V.int)) → Q (.ref p) H'
theorem c__law_within (T : Tx K mg) : Cal P w K mg base 1 "_law_within" (sp__law_within P w) := by
  refine cal_of T.d__law_within sc__law_within (fun vs H Q E h => ?_) (fun f cdv A outer s H vs Q E hr h => ?_)
  · obtain ⟨_, _, _, _, _, _, rfl, _⟩ := h; rfl
  · obtain ⟨d, x, y, sd, g, b, rfl, ⟨es, D, ek, ev⟩, hx, hy, ok, ws, q⟩ := h
    have hlp : (pls sd).length ≤ 120 := by rw [pls_len]; exact ws.n
    have hle : es.length = (pls sd).length := by
      have := congrArg List.length ek
      rw [List.length_map, List.length_map] at this; exact this
    refine ⟨_, (pss_cons (ps_set (i := 3) sc__law_within.nd rfl (Or.inl rfl) (pe_lst pa_nil))
      (pss_cons (ps_lock (ps_for PassesOwn.never rfl (pi_itemsN (pv 0)) (pg_tup rfl (pgs_cons (pg_name (i := 4) sc__law_within.nd rfl (Or.inl rfl)) (pgs_cons (pg_name (i := 5) sc__law_within.nd rfl (Or.inl rfl)) pgs_nil))) (pss_one (ps_if (pt_cmpR (op_eqK (hu64 hr) : OpR _ (compareOp .Eq) (rEqK K)) (pe_lc (own := [("_law_a", 6), ("_law_p", 7), ("_law_b", 8)]) (g := (gTup K 3 (gCons (gName 6) (gCons (gName 7) (gCons (gName 8) gNil))))) rfl sc__law_within.nd (pi_zip3 (by rfl) T.z_zip (pa_cons (pv 1) (pa_cons (pv 4) (pa_cons (pv 2) pa_nil)))) (blkOk_by (N := ["_law_known", "_law_low", "_law_high", "_law_found", "_law_place", "_law_number_here", "_law_a", "_law_p", "_law_b"]) (sc := defScope s__law_within) (by decide +kernel)) (fun _ _ _ _ _ => (pg_tup rfl (pgs_cons (pg_name (i := 6) sc__law_within.nd rfl (Or.inl rfl)) (pgs_cons (pg_name (i := 7) sc__law_within.nd rfl (Or.inl rfl)) (pgs_cons (pg_name (i := 8) sc__law_within.nd rfl (Or.inl rfl)) pgs_nil))))) (fun _ _ _ _ _ => (pts_one (PW.pt (pw_or (pt_cmpR op_lt (pv 7) (pv 6) (nomark _)) (pw_or1 (pt_cmpR op_gt (pv 7) (pv 8) (nomark _))))))) (fun _ _ _ _ _ => pe_int)) (pe_lst pa_nil) (nomark _)) (pss_one (ps_expr (pe_bm PySem.F.plainAttrs_list PySem.F.slot_list_append PySem.F.type_list_append mt_append (pv 3) (pa_cons (pv 5) pa_nil)))) pss_nil))))
      (pss_one (ps_ret (pv 3))))), ?_⟩
    refine ⟨Nat.zero_le _, fun L nL => ?_⟩
    have fL : H L = none := nL
    have sL := same_new (o := .lst []) nL
    have dL : d ≠ L := ne_of_none D.here fL
    refine ⟨d, DnO P w d es, sL _ _ D.here, trivial, fun od => ?_⟩
    have hd0 : upd (upd H L (.lst [])) d (.frz od (DnO P w d es)) d = some (.frz od (DnO P w d es)) := upd_same
    have hL0 : upd (upd H L (.lst [])) d (.frz od (DnO P w d es)) L = some (.lst []) := by rw [upd_ne dL.symm, upd_same]
    have t0 : Tu H (upd (upd H L (.lst [])) d (.frz od (DnO P w d es))) := (Same.tu sL).trans (Tu.ext (sL _ _ D.here))
    generalize hHk : upd (upd H L (.lst [])) d (.frz od (DnO P w d es)) = Hk at hd0 hL0 t0
    have tk : ∀ {H2 : Hp}, Off (fun x => x = L) Hk H2 → Tu H H2 := fun {H2} o => t0.trans fun a xs e => o a _ (fun z => by subst z; rw [hL0] at e; cases e) e
    refine ⟨.ref d, rfl, d, od, es, rfl, by first | exact hd0 | (rw [hHk]; exact hd0), D.ns, ?_⟩
    refine for_it walk_itemsN (fun i σ H2 => Off (fun x => x = L) Hk H2 ∧ ∃ y4 y5 y6 y7 y8, σ = [some (.ref d), some (.ref x), some (.ref y), some (.ref L), y4, y5, y6, y7, y8] ∧ H2 L = some (.lst (((((pls sd).take i).filter (inB b.1 b.2)).map g).map V.int)))
      ⟨by first | exact Off.refl _ | (rw [hHk]; exact Off.refl _), none, none, none, none, none, rfl, by first | exact hL0 | (rw [hHk]; exact hL0)⟩ (fun i σ H2 _ h => h.1 _ _ dL hd0) (fun i v σ H2 H3 hi h yy => ?_) (fun σ H2 h => ?_)
    · obtain ⟨o2, y4, y5, y6, y7, y8, rfl, hL⟩ := h
      obtain ⟨t, xe, rfl, nt, rfl, gx⟩ := yy
      have hi2 : i < (pls sd).length := by omega
      have gp := List.getElem?_eq_getElem hi2
      generalize (pls sd)[i] = p at gp
      have e1 : xe.1 = plc p := by
        have := congrArg (fun l => l[i]?) ek
        simp only [List.getElem?_map, gx, gp, Option.map_some, Option.some.injEq] at this
        exact this
      have e2 : xe.2.2 = V.int (g p) := by
        have := congrArg (fun l => l[i]?) ev
        simp only [List.getElem?_map, gx, gp, Option.map_some, Option.some.injEq] at this
        exact this
      have hxe := (D.c.keys xe (List.mem_of_getElem? gx)).1
      rw [e1] at hxe
      have okp := mem_pls.mp (List.mem_of_getElem? gp)
      have st := same_new (o := .tup [V.ref xe.2.1, xe.2.2]) nt
      have tu3 : Tu H (upd H2 t (.tup [V.ref xe.2.1, xe.2.2])) := (tk o2).trans (Same.tu st)
      have hpp := (rep_pl' hxe).tu tu3
      have hx3 := hx.tu tu3
      have hy3 := hy.tu tu3
      have l1 : b.1.length = p.length := by rw [ok.len.1, okp.len]
      have l2 : b.2.length = p.length := by rw [ok.len.2, okp.len]
      have hL3 := st _ _ hL
      have etk : (((pls sd).take (i + 1)).filter (inB b.1 b.2)) = ((pls sd).take i).filter (inB b.1 b.2) ++ (if inB b.1 b.2 p = true then [p] else []) := take_filter _ gp
      have hll : (((((pls sd).take i).filter (inB b.1 b.2)).map g).map V.int).length ≤ 120 := by
        rw [List.length_map, List.length_map]
        refine Nat.le_trans (List.length_filter_le _ _) ?_
        rw [List.length_take]; omega
      refine ⟨t, _, rfl, .inl (.inl upd_same), rfl, _, _, rfl, _, _, rfl, rfl, ?_⟩
      refine ⟨_, rfl, _, rfl, _, rfl, (true, x, b.1.map V.int), (true, xe.2.1, p.map V.int), (true, y, b.2.map V.int), p.length, rfl, src_pl hx3, src_pl hpp, src_pl hy3, by simp [l1], by simp, by simp [l2], fun Dn hDn => ?_⟩
      refine lc_dataIf (b.1.zip (p.zip b.2)) outB (fun _ => .num 1) walk_src (by rw [List.length_zip, List.length_zip, l1, l2, Nat.min_self, Nat.min_self]) (small_le (by rw [okp.len]; have := ws.len; omega)) hDn (fun H' s => srcs3 (src_pl (hx3.tu (Same.tu s))) (src_pl (hpp.tu (Same.tu s))) (src_pl (hy3.tu (Same.tu s)))) (fun j r v H5 H6 hr s5 y2 Qy Qn kt kf => ?_) (fun H5 zs s5 hd rz => ?_)
      · obtain ⟨g1, g2⟩ := zip_get hr
        obtain ⟨g2, g3⟩ := zip_get g2
        obtain ⟨t2, rfl, nt2, rfl⟩ := ytup3 y2 (get_int g1) (get_int g2) (get_int g3)
        refine ⟨t2, _, rfl, .inl (.inl upd_same), rfl, _, _, rfl, _, _, rfl, _, _, rfl, rfl, rfl, or_out rfl rfl rfl ?_⟩
        refine ite2 (fun e => kt e _ _ (same_new nt2) rfl) (fun e => kf (Bool.eq_false_iff.mpr e) _ (same_new nt2))
      · refine ⟨Nat.zero_le _, fun Z nZ => ?_⟩
        have sZ := same_new (o := .lst []) nZ
        have s5z := s5.trans sZ
        refine ⟨.inl (((b.1.zip (p.zip b.2)).filter outB).map fun _ => .num 1), .inl [], .lst (.inl (.inl (sZ _ _ hd))) (rz.mono (Same.tu sZ)), .lst (.inl (.inl upd_same)) .nil, ?_, by decide, _, rfl, ?_⟩
        · show NestedKey.depthAll _ + 1 ≤ 64
          have : NestedKey.depthAll (((b.1.zip (p.zip b.2)).filter outB).map fun _ => NestedKey.num 1) ≤ 0 := depthAll_le fun k hk => by
            obtain ⟨x, _, rfl⟩ := List.mem_map.mp hk
            exact Nat.le_refl _
          omega
        · have eb : decide ((Sum.inl (((b.1.zip (p.zip b.2)).filter outB).map fun _ => NestedKey.num 1) : List NestedKey ⊕ NestedKey) = Sum.inl []) = inB b.1 b.2 p := by
            rw [← out_nil l1 l2]
            exact decide_eq_decide.mpr ⟨fun z => List.map_eq_nil_iff.mp (Sum.inl.inj z), fun z => by rw [z]; rfl⟩
          rw [eb]
          have o6 : Off (fun x => x = L) Hk (upd H5 Z (.lst [])) := o2.trans ((same_off st).trans (same_off s5z))
          have hL6 := s5z _ _ hL3
          refine ite2 (fun e => ?_) (fun e => ?_)
          · refine ⟨_, rfl, .inl ⟨rfl, _, .inl (.inl hL6)⟩, _, rfl, L, _, _, rfl, rfl, hL6, small_lt (by omega), ?_⟩
            refine ⟨o6.trans (Off.at rfl), _, _, _, _, _, rfl, ?_⟩
            rw [upd_same, etk, if_pos e, e2]
            simp
          · refine ⟨o6, _, _, _, _, _, rfl, ?_⟩
            rw [etk, if_neg e, List.append_nil]
            exact hL6
    · obtain ⟨o2, y4, y5, y6, y7, y8, rfl, hL⟩ := h
      have hd2 := o2 _ _ dL hd0
      rw [hle, List.take_length, ← cells_filter ok] at hL
      have sH : Same H (upd H2 d (DnO P w d es)) := same_unlock D.here fL (od := od) (by rw [hHk]; exact o2)
      exact ⟨hd2, _, rfl, q L _ sH fL (by rw [upd_ne dL.symm]; exact hL)⟩
end Bx

set_option Elab.async false
set_option linter.all false
set_option maxRecDepth 100000
set_option maxHeartbeats 1000000
/-! _law_most, _law_due, _law_answer. -/
namespace Bx
open PySem PySem.Spec PyProof.Rows L2
variable {P : Program} {w : World} {K : PySem.W.Frag} {mg : Str → Option Value} {base : Heap}
def prodN (rs : List Nat) : Nat := (rs.map (· + 1)).foldr (· * ·) 1
theorem prodN_snoc : ∀ (rs : List Nat) (r : Nat), prodN (rs ++ [r]) = prodN rs * (r + 1)
  | [], r => by simp [prodN]
  | x :: rs, r => by
    have ih := prodN_snoc rs r
    unfold prodN at ih ⊢
    simp only [List.cons_append, List.map_cons, List.foldr_cons, ih, Nat.mul_assoc]
def sp__law_most : Sp := fun vs H Q _ => ∃ (a : Addr) (sd : List Int), vs = [.ref a] ∧ PlAt H a sd ∧ WS sd ∧ ∀ (rs : List Nat) H', rs.length = sd.length → (∀ (i : Nat) (s : Int) (r : Nat), sd[i]? = some s → rs[i]? = some r → s ≤ 2 ^ r) → Same H H' → Q (.int (prodN rs : Nat)) H'
theorem c__law_most (T : Tx K mg) : Cal P w K mg base 1 "_law_most" sp__law_most := by
  refine cal_of T.d__law_most sc__law_most (fun vs H Q E h => ?_) (fun f cdv A outer s H vs Q E hr h => ?_)
  · obtain ⟨_, _, rfl, _⟩ := h; rfl
  · obtain ⟨a, sd, rfl, ha, ws, q⟩ := h
    refine ⟨_, (pss_cons (ps_set (i := 1) sc__law_most.nd rfl (Or.inl rfl) pe_int)
      (pss_cons (ps_for PassesOwn.never rfl (pi_tup (pv 0)) (pg_name (i := 2) sc__law_most.nd rfl (Or.inl rfl)) (pss_cons (ps_set (i := 3) sc__law_most.nd rfl (Or.inl rfl) pe_int)
      (pss_cons (ps_while PassesOwn.never (pt_cmpR op_lt (pe_op op_shl pe_int (pv 3)) (pv 2) (nomark _)) (pss_one (ps_set (i := 3) sc__law_most.nd rfl (Or.inl rfl) (pe_op op_add (pv 3) pe_int))))
      (pss_one (ps_set (i := 1) sc__law_most.nd rfl (Or.inl rfl) (pe_op op_mul (pv 1) (pe_op op_add (pv 3) pe_int)))))))
      (pss_one (ps_ret (pv 1))))), ?_⟩
    refine ⟨.ref a, rfl, a, rfl, ⟨_, .inl (.inl ha)⟩, ?_⟩
    refine for_it (walk_tup (xs := sd.map V.int)) (fun i σ H1 => H1 = H ∧ ∃ (rs : List Nat) (y2 y3 : Option V), σ = [some (.ref a), some (.int (prodN rs : Nat)), y2, y3] ∧ rs.length = i ∧ ∀ (j : Nat) (s : Int) (r : Nat), sd[j]? = some s → rs[j]? = some r → s ≤ 2 ^ r)
      ⟨rfl, [], none, none, rfl, rfl, fun j s r _ h => by simp at h⟩ (fun i σ H1 _ h => by rw [h.1]; exact .inl (.inl ha)) (fun i v σ H1 H2 hi h yy => ?_) (fun σ H1 h => ?_)
    · obtain ⟨rfl, rs, y2, y3, rfl, hl, hb⟩ := h
      rw [List.length_map] at hi
      have g := List.getElem?_eq_getElem hi
      obtain ⟨rfl, rfl⟩ := yat_map yy g
      have h2 := ws.sm _ (List.mem_of_getElem? g)
      generalize sd[i] = sx at g h2
      -- while 1 << reach < side
      refine ⟨fun m σ H3 => H3 = H1 ∧ ∃ r : Nat, σ = [some (.ref a), some (.int (prodN rs : Nat)), some (.int sx), some (.int (r : Nat))] ∧ r ≤ 7 ∧ m = 8 - r, ⟨8, rfl, 0, rfl, by decide, rfl⟩, ?_⟩
      rintro m σ H3 ⟨rfl, r, rfl, hr7, rfl⟩
      have ep : ((1 : Int) * 2 ^ ((r : Nat) : Int).toNat) = 2 ^ r := by rw [Int.one_mul, Int.toNat_natCast]
      refine ⟨_, rfl, 1, (r : Int), rfl, rfl, ⟨by omega, by omega, by decide⟩, _, rfl, _, sx, rfl, rfl, _, rfl, ?_⟩
      rw [ep]
      refine ite2 (fun e => ?_) (fun e => ?_)
      · have hlt : (2 : Int) ^ r < sx := of_decide_eq_true e
        have hr6 : r ≤ 6 := by
          apply Classical.byContradiction
          intro z
          have : r = 7 := by omega
          subst this
          have : (2 : Int) ^ 7 = 128 := rfl
          omega
        refine ⟨fun σ' H' => H' = H3 ∧ σ' = [some (.ref a), some (.int (prodN rs : Nat)), some (.int sx), some (.int ((r + 1 : Nat) : Int))], fun σ' H' h => ?_, ?_⟩
        · obtain ⟨rfl, rfl⟩ := h
          exact ⟨8 - (r + 1), by omega, rfl, r + 1, rfl, by omega, rfl⟩
        · exact ⟨_, rfl, (r : Int), 1, rfl, rfl, rfl, rfl⟩
      · have hge : sx ≤ 2 ^ r := Int.not_lt.mp fun z => e (decide_eq_true z)
        refine ⟨_, rfl, _, rfl, _, _, rfl, rfl, _, _, rfl, rfl, .inr ⟨by omega, by omega⟩, ?_⟩
        refine ⟨rfl, rs ++ [r], some (.int sx), some (.int (r : Nat)), ?_, by rw [List.length_append, hl]; rfl, fun j s r' h1 h2' => ?_⟩
        · rw [prodN_snoc, Int.natCast_mul]
          rfl
        · by_cases hj : j < rs.length
          · rw [List.getElem?_append_left hj] at h2'
            exact hb j s r' h1 h2'
          · rw [List.getElem?_append_right (by omega)] at h2'
            have hj2 : j - rs.length = 0 := by
              apply Classical.byContradiction
              intro z
              rw [List.getElem?_eq_none (by simp; omega)] at h2'
              cases h2'
            rw [hj2] at h2'
            cases h2'
            have : j = i := by omega
            subst this
            rw [g] at h1; cases h1
            exact hge
    · obtain ⟨rfl, rs, y2, y3, rfl, hl, hb⟩ := h
      rw [List.length_map] at hl
      exact ⟨_, rfl, q rs _ hl hb (Same.refl _)⟩

def sp__law_due (P : Program) (w : World) : Sp := fun vs H Q _ => ∃ (a d : Addr) (sd : List Int) (f : Pl → Int), vs = [.ref a, .ref d] ∧ PlAt H a sd ∧ KD P w H d sd f ∧ WS sd ∧ ∀ p H', Same H H' → H p = none → Ls H' p ((halfB sd).map (tabk (TB f))) → Q (.ref p) H'
theorem c__law_due (T : Tx K mg) : Cal P w K mg base 3 "_law_due" (sp__law_due P w) := by
  have C__law_half_boxes := c__law_half_boxes (P := P) (w := w) (base := base) T
  have C__law_within := c__law_within (P := P) (w := w) (base := base) T
  refine cal_of T.d__law_due sc__law_due (fun vs H Q E h => ?_) (fun f cdv A outer s H vs Q E hr h => ?_)
  · obtain ⟨_, _, _, _, rfl, _⟩ := h; rfl
  · obtain ⟨a, d, sd, g, rfl, ha, kd, ws, q⟩ := h
    have hlen := halfB_len ws
    refine ⟨_, (pss_cons (ps_set (i := 2) sc__law_due.nd rfl (Or.inl rfl) (pe_lst pa_nil))
      (pss_cons (ps_for PassesOwn.never rfl (pi_list (pe_c C__law_half_boxes hr (by decide) (by rfl) (pa_cons (pv 0) pa_nil))) (pg_tup rfl (pgs_cons (pg_name (i := 3) sc__law_due.nd rfl (Or.inl rfl)) (pgs_cons (pg_name (i := 4) sc__law_due.nd rfl (Or.inl rfl)) pgs_nil))) (pss_cons (ps_set (i := 5) sc__law_due.nd rfl (Or.inl rfl) (pe_c C__law_within hr (by decide) (by rfl) (pa_cons (pv 1) (pa_cons (pv 3) (pa_cons (pv 4) pa_nil)))))
      (pss_one (ps_expr (pe_bm PySem.F.plainAttrs_list PySem.F.slot_list_append PySem.F.type_list_append mt_append (pv 2) (pa_cons (pe_tup (pa_cons (pe_tup (pa_cons (pv 3) (pa_cons (pv 4) pa_nil))) (pa_cons (pe_tup (pa_cons (pe_callB (cr_sum rfl) (by rfl) T.z_sum (by decide +kernel) (pa_cons (pv 5) pa_nil)) (pa_cons (pe_callB (cr_min rfl) (by rfl) T.z_min (by decide +kernel) (pa_cons (pv 5) pa_nil)) (pa_cons (pe_callB (cr_max rfl) (by rfl) T.z_max (by decide +kernel) (pa_cons (pv 5) pa_nil)) pa_nil)))) pa_nil))) pa_nil))))))
      (pss_one (ps_ret (pv 2))))), ?_⟩
    refine ⟨Nat.zero_le _, fun L nL => ?_⟩
    have fL : H L = none := nL
    have sL := same_new (o := .lst []) nL
    refine ⟨.ref a, rfl, a, sd, rfl, ha.tu (Same.tu sL), ws, fun M H1 s1 fM lM => ?_⟩
    obtain ⟨ms, hM, rM⟩ := lM
    have hL1 := s1 _ _ (show upd H L (.lst []) L = some (.lst []) from upd_same)
    have s01 := sL.trans s1
    have lm : ms.length = (halfB sd).length := by rw [rM.length, List.length_map]
    have hML : M ≠ L := (ne_of_none (show upd H L (.lst []) L = some (.lst []) from upd_same) fM).symm
    refine ⟨M, rfl, ⟨_, .inl (.inl hM)⟩, ?_⟩
    refine for_it (walk_list (xs := ms)) (fun i σ H2 => Same H H2 ∧ Off (fun x => x = L) H1 H2 ∧ ∃ y3 y4 y5, σ = [some (.ref a), some (.ref d), some (.ref L), y3, y4, y5] ∧ Ls H2 L (((halfB sd).take i).map (tabk (TB g))))
      ⟨s01, Off.refl _, none, none, none, rfl, [], hL1, .nil⟩ (fun i σ H2 _ h => .inl (.inl (h.2.1 _ _ hML hM))) (fun i v σ H2 H3 hi h yy => ?_) (fun σ H2 h => ?_)
    · obtain ⟨s2, o2, y3, y4, y5, rfl, ls, hL, rL⟩ := h
      obtain ⟨rfl, gv⟩ := yy
      have hi2 : i < (halfB sd).length := by omega
      have gb := List.getElem?_eq_getElem hi2
      have hb := List.mem_of_getElem? gb
      generalize (halfB sd)[i] = b at gb hb
      have tu12 : Tu H1 H3 := fun c xs e => o2 c _ (fun z => by subst z; rw [hL1] at e; cases e) e
      obtain ⟨v', gv', rv'⟩ := rM.get (k := bxk b) (by rw [List.getElem?_map, gb]; rfl)
      cases gv.symm.trans gv'
      obtain ⟨c, rfl, x, y, hc, hx, hy⟩ := rep_bx (rv'.mono tu12)
      have ok := (mem_halfB.mp hb).ok ws.ps
      refine ⟨c, _, rfl, .inl (.inl hc), rfl, _, _, rfl, _, _, rfl, rfl, ?_⟩
      refine ⟨.ref d, rfl, .ref x, rfl, .ref y, rfl, d, x, y, sd, g, b, rfl, kd.same s2, hx, hy, ok, ws, fun S H4 s4 fS hS => ?_⟩
      have hL4 := s4 _ _ hL
      have nn : (cells b).map g ≠ [] := by simpa using cells_ne ok
      have hl0 := List.length_pos_iff.mpr nn
      refine ⟨_, rfl, .inl ⟨rfl, _, .inl (.inl hL4)⟩, ?_⟩
      refine ⟨.ref x, rfl, .ref y, rfl, small_le (by show 2 ≤ _; decide), fun t nt => ?_⟩
      have st := same_new (o := .tup [V.ref x, V.ref y]) nt
      have hS5 := st _ _ hS
      refine ⟨.ref S, rfl, S, _, rfl, .inl (.inl hS5), .ref S, rfl, S, _, rfl, .inl (.inl hS5), hl0, fun m h1 h2 => ⟨.ref S, rfl, S, _, rfl, .inl (.inl hS5), hl0, fun mx h3 h4 => ⟨small_le (by show 3 ≤ _; decide), fun u nu => ?_⟩⟩⟩
      have su := same_new (o := .tup [V.int ((cells b).map g).sum, V.int m, V.int mx]) nu
      have hu : TrAt (upd (upd H4 t (.tup [V.ref x, V.ref y])) u (.tup [V.int ((cells b).map g).sum, V.int m, V.int mx])) u (TB g b) := by
        unfold TrAt
        rw [upd_same, mnl_of h1 h2, mxl_of h3 h4]; rfl
      refine ⟨small_le (by show 2 ≤ _; decide), fun e ne => ?_⟩
      have se := same_new (o := .tup [V.ref t, V.ref u]) ne
      have s4e := (s4.trans st).trans (su.trans se)
      have hL6 := s4e _ _ hL
      refine ⟨L, _, _, rfl, rfl, hL6, ?_, ?_⟩
      · rw [rL.length, List.length_map, List.length_take]; exact small_lt (by omega)
      · refine ⟨same_fresh fL (s2.trans s4e), (o2.trans (same_off s4e)).trans (Off.at rfl), _, _, _, rfl, _, upd_same, ?_⟩
        have tl := Tu.lst (o := .lst (ls ++ [V.ref e])) hL6
        rw [List.take_add_one, gb, List.map_append]
        refine Reps.append ((rL.mono (Same.tu s4e)).mono tl) (Reps.mono tl (.cons ⟨e, _, rfl, upd_same, .cons (BxAt.rep ⟨x, y, se _ _ (su _ _ upd_same), ?_, ?_⟩) (.cons (hu.tu (Same.tu se)).rep .nil)⟩ .nil))
        · exact hx.tu (Same.tu s4e)
        · exact hy.tu (Same.tu s4e)
    · obtain ⟨s2, o2, y3, y4, y5, rfl, lL⟩ := h
      rw [lm, List.take_length] at lL
      exact ⟨_, rfl, q L _ s2 fL lL⟩

def sp__law_answer (P : Program) (w : World) : Sp := fun vs H Q _ => ∃ (d c : Addr) (sd : List Int) (f : Pl → Int) (b : Box), vs = [.ref d, .ref c] ∧ KD P w H d sd f ∧ BxAt H c b ∧ OkB sd b.1 b.2 ∧ WS sd ∧ ∀ r H', Same H H' → TrAt H' r (TB f b) → Q (.ref r) H'
theorem c__law_answer (T : Tx K mg) : Cal P w K mg base 2 "_law_answer" (sp__law_answer P w) := by
  have C__law_within := c__law_within (P := P) (w := w) (base := base) T
  refine cal_of T.d__law_answer sc__law_answer (fun vs H Q E h => ?_) (fun f cdv A outer s H vs Q E hr h => ?_)
  · obtain ⟨_, _, _, _, _, rfl, _⟩ := h; rfl
  · obtain ⟨d, c, sd, g, b, rfl, kd, ⟨x, y, hc, hx, hy⟩, ok, ws, q⟩ := h
    refine ⟨_, (pss_cons (ps_set (i := 2) sc__law_answer.nd rfl (Or.inl rfl) (pe_c C__law_within hr (by decide) (by rfl) (pa_cons (pv 0) (pa_cons (pe_ix (ix_tup : IxR _ (rIxT K)) (pv 1) pe_int (fun _ _ => rfl)) (pa_cons (pe_ix (ix_tup : IxR _ (rIxT K)) (pv 1) pe_int (fun _ _ => rfl)) pa_nil)))))
      (pss_one (ps_ret (pe_tup (pa_cons (pe_callB (cr_sum rfl) (by rfl) T.z_sum (by decide +kernel) (pa_cons (pv 2) pa_nil)) (pa_cons (pe_callB (cr_min rfl) (by rfl) T.z_min (by decide +kernel) (pa_cons (pv 2) pa_nil)) (pa_cons (pe_callB (cr_max rfl) (by rfl) T.z_max (by decide +kernel) (pa_cons (pv 2) pa_nil)) pa_nil))))))), ?_⟩
    refine ⟨.ref d, rfl, .ref c, rfl, c, _, 0, _, rfl, rfl, .inl (.inl hc), rfl, .ref c, rfl, c, _, 1, _, rfl, rfl, .inl (.inl hc), rfl, d, x, y, sd, g, b, rfl, kd, hx, hy, ok, ws, fun S H4 s4 fS hS => ?_⟩
    have nn : (cells b).map g ≠ [] := by simpa using cells_ne ok
    have hl0 := List.length_pos_iff.mpr nn
    refine ⟨.ref S, rfl, S, _, rfl, .inl (.inl hS), .ref S, rfl, S, _, rfl, .inl (.inl hS), hl0, fun m h1 h2 => ⟨.ref S, rfl, S, _, rfl, .inl (.inl hS), hl0, fun mx h3 h4 => ⟨small_le (by show 3 ≤ _; decide), fun u nu => ?_⟩⟩⟩
    refine q u _ (s4.trans (same_new nu)) ?_
    unfold TrAt
    rw [upd_same, mnl_of h1 h2, mxl_of h3 h4]; rfl
end Bx

set_option Elab.async false
set_option linter.all false
set_option maxRecDepth 100000
set_option maxHeartbeats 1000000
/-! the pen: _law_pen, _law_take, _law_number. -/
namespace Bx
open PySem PySem.Spec PyProof.Rows L2
variable {P : Program} {w : World} {K : PySem.W.Frag} {mg : Str → Option Value} {base : Heap}
/-- the script's list is another thing than x, or one of the module's -/
def Apart (K : PySem.W.Frag) (s x : Addr) (ns : List Int) : Prop := s ≠ x ∨ ∀ H : Hp, SqL K H s (ns.map V.int)
structure PenAt (K : PySem.W.Frag) (H : Hp) (pa s : Addr) (ns : List Int) : Prop where
  pen : ∃ at_ gr : Int, H pa = some (.lst [.ref s, .int at_, .int gr]) ∧ 0 ≤ at_ ∧ 0 ≤ gr
  scr : SqL K H s (ns.map V.int)
  ap : Apart K s pa ns
theorem apart_new {H : Hp} {s x : Addr} {ns : List Int} (h : SqL K H s (ns.map V.int)) (n : H x = none) : Apart K s x ns := by
  rcases h with (h | ⟨o, h⟩) | h
  · exact .inl (ne_of_none h n)
  · exact .inl (ne_of_none h n)
  · exact .inr fun _ => .inr h
theorem seq_off {S : Addr → Prop} {H H' : Hp} {s : Addr} {ns : List Int} (h : SqL K H s (ns.map V.int)) (o : Off S H H') (a : ∀ x, S x → Apart K s x ns) : SqL K H' s (ns.map V.int) := by
  by_cases hs : S s
  · rcases a s hs with z | z
    · exact absurd rfl z
    · exact z H'
  · rcases h with (h | ⟨ob, h⟩) | h
    · exact .inl (.inl (o s _ hs h))
    · exact .inl (.inr ⟨ob, o s _ hs h⟩)
    · exact .inr h
theorem PenAt.same {H H' : Hp} {pa s : Addr} {ns : List Int} (p : PenAt K H pa s ns) (o : Same H H') : PenAt K H' pa s ns := by
  obtain ⟨⟨a, g, h1, h2, h3⟩, h4, h5⟩ := p
  exact ⟨⟨a, g, o _ _ h1, h2, h3⟩, o.seq h4, h5⟩
/-- something new is laid, or changed, that is neither the pen nor the script -/
theorem PenAt.upd {H : Hp} {pa s D : Addr} {o : HO} {ns : List Int} (p : PenAt K H pa s ns) (h1 : pa ≠ D) (h2 : Apart K s D ns) : PenAt K (L2.upd H D o) pa s ns := by
  obtain ⟨⟨a, g, e1, e2, e3⟩, e4, e5⟩ := p
  exact ⟨⟨a, g, by rw [upd_ne h1]; exact e1, e2, e3⟩, seq_off (S := fun x => x = D) e4 (Off.at rfl) (fun x z => z ▸ h2), e5⟩
/-- the pen itself is changed -/
theorem PenAt.put {H : Hp} {pa s : Addr} {ns : List Int} (p : PenAt K H pa s ns) {a g : Int} (ha : 0 ≤ a) (hg : 0 ≤ g) : PenAt K (L2.upd H pa (.lst [.ref s, .int a, .int g])) pa s ns :=
  ⟨⟨a, g, upd_same, ha, hg⟩, seq_off (S := fun x => x = pa) p.scr (Off.at rfl) (fun x z => z ▸ p.ap), p.ap⟩
abbrev isA (a : Addr) : Addr → Prop := fun x => x = a
theorem PenAt.tu {H H' : Hp} {pa s : Addr} {ns : List Int} (p : PenAt K H pa s ns) (o : Off (isA pa) H H') : Tu H H' := fun a xs e => o a _ (fun z => by
  obtain ⟨_, _, h, _⟩ := p.pen
  subst z
  rw [h] at e; cases e) e
def sp__law_pen (K : PySem.W.Frag) : Sp := fun vs H Q _ => ∃ (s : Addr) (ns : List Int), vs = [.ref s] ∧ SqL K H s (ns.map V.int) ∧ ∀ p H', Same H H' → H p = none → PenAt K H' p s ns → Q (.ref p) H'
theorem c__law_pen (T : Tx K mg) : Cal P w K mg base 1 "_law_pen" (sp__law_pen K) := by
  refine cal_of T.d__law_pen sc__law_pen (fun vs H Q E h => ?_) (fun f cdv A outer s H vs Q E hr h => ?_)
  · obtain ⟨_, _, rfl, _⟩ := h; rfl
  · obtain ⟨sa, ns, rfl, hs, q⟩ := h
    refine ⟨_, (pss_one (ps_ret (pe_lst (pa_cons (pv 0) (pa_cons pe_int (pa_cons pe_int pa_nil)))))), ?_⟩
    refine ⟨.ref sa, rfl, small_le (by show 3 ≤ _; decide), fun p np => q p _ (same_new np) np ⟨⟨0, 0, upd_same, by decide, by decide⟩, (same_new np).seq hs, apart_new hs np⟩⟩
theorem and2 {t u : TT} {σ : L2.St} {H : Hp} {Q : Bool → Hp → Prop} {c1 c2 : Bool} (ht : ∀ Q' : Bool → Hp → Prop, Q' c1 H → t σ H Q') (hu : ∀ Q' : Bool → Hp → Prop, Q' c2 H → u σ H Q') (q : Q (c1 && c2) H) : tAnd t u σ H Q := by
  refine ht _ ?_
  cases c1 with
  | true => exact iteT (hu _ q)
  | false => exact iteF q
theorem ix3 {H : Hp} {pa s : Addr} {a g : Int} (h : H pa = some (.lst [.ref s, .int a, .int g])) : SqL K H pa [.ref s, .int a, .int g] := .inl (.inl h)
def sp__law_take (K : PySem.W.Frag) : Sp := fun vs H Q _ => ∃ (pa s : Addr) (ns : List Int) (m : Int), vs = [.ref pa, .int m] ∧ PenAt K H pa s ns ∧ 0 < m ∧ m ≤ 100000 ∧ ∀ (r : Int) H', 0 ≤ r → r < m → Off (isA pa) H H' → PenAt K H' pa s ns → Q (.int r) H'
theorem c__law_take (T : Tx K mg) : Cal P w K mg base 1 "_law_take" (sp__law_take K) := by
  refine cal_of T.d__law_take sc__law_take (fun vs H Q E h => ?_) (fun f cdv A outer s H vs Q E hr h => ?_)
  · obtain ⟨_, _, _, _, rfl, _⟩ := h; rfl
  · obtain ⟨pa, sa, ns, m, rfl, pen, hm, hm2, q⟩ := h
    obtain ⟨at0, gr, hp, hat, hgr⟩ := pen.pen
    have hx := ix3 (K := K) hp
    refine ⟨_, (pss_cons (ps_if (pt_cmpR op_gt (pe_ix (ix_list : IxR _ (rIxL K)) (pv 0) pe_int (fun _ _ => rfl)) pe_int (nomark _)) (pss_cons (ps_set (i := 2) sc__law_take.nd rfl (Or.inl rfl) (pe_op op_mod (pe_ix (ix_list : IxR _ (rIxL K)) (pv 0) pe_int (fun _ _ => rfl)) (pv 1)))
      (pss_cons (ps_asg (pe_op op_fdiv (pe_ix (ix_list : IxR _ (rIxL K)) (pv 0) pe_int (fun _ _ => rfl)) (pv 1)) (pg_sub (pv 0) pe_int set_list (fun _ => rfl)))
      (pss_one (ps_ret (pv 2))))) pss_nil)
      (pss_cons (ps_set (i := 3) sc__law_take.nd rfl (Or.inl rfl) (pe_ix (ix_list : IxR _ (rIxL K)) (pv 0) pe_int (fun _ _ => rfl)))
      (pss_cons (ps_asg (pe_op op_add (pv 3) pe_int) (pg_sub (pv 0) pe_int set_list (fun _ => rfl)))
      (pss_cons (ps_set (i := 4) sc__law_take.nd rfl (Or.inl rfl) pe_int)
      (C8.pss_cut (ps_if (pt_cmpR op_gt (pe_callB call_len_seq (by rfl) T.z_len PySem.boot_len (pa_cons (pe_ix (ix_list : IxR _ (rIxL K)) (pv 0) pe_int (fun _ _ => rfl)) pa_nil)) pe_int (nomark _)) (pss_one (ps_set (i := 4) sc__law_take.nd rfl (Or.inl rfl) (pe_ix (ix_list : IxR _ (rIxL K)) (pe_ix (ix_list : IxR _ (rIxL K)) (pv 0) pe_int (fun _ _ => rfl)) (pe_op op_mod (pv 3) (pe_callB call_len_seq (by rfl) T.z_len PySem.boot_len (pa_cons (pe_ix (ix_list : IxR _ (rIxL K)) (pv 0) pe_int (fun _ _ => rfl)) pa_nil))) (fun _ _ => rfl)))) pss_nil)
      (pss_cons (ps_if (PW.pt (pw_and (pt_cmpR op_lt (pv 3) (pe_callB call_len_seq (by rfl) T.z_len PySem.boot_len (pa_cons (pe_ix (ix_list : IxR _ (rIxL K)) (pv 0) pe_int (fun _ _ => rfl)) pa_nil)) (nomark _)) (pw_and1 (pt_cmpR op_ge (pe_callB call_abs (by rfl) T.z_abs (by decide +kernel) (pa_cons (pv 4) pa_nil)) (pe_op op_pow pe_int pe_int) (nomark _))))) (pss_cons (ps_asg (pe_op op_fdiv (pe_callB call_abs (by rfl) T.z_abs (by decide +kernel) (pa_cons (pv 4) pa_nil)) (pv 1)) (pg_sub (pv 0) pe_int set_list (fun _ => rfl)))
      (pss_one (ps_ret (pe_op op_mod (pe_callB call_abs (by rfl) T.z_abs (by decide +kernel) (pa_cons (pv 4) pa_nil)) (pv 1))))) pss_nil)
      (pss_cons (ps_set (i := 5) sc__law_take.nd rfl (Or.inl rfl) (pe_op op_mod (pe_op op_mul (pe_op op_add (pe_op op_add (pe_op op_mod (pv 4) pe_int) (pe_op op_mul pe_int (pv 3))) pe_int) pe_int) pe_int))
      (pss_cons (ps_set (i := 5) sc__law_take.nd rfl (Or.inl rfl) (pe_op op_mod (pe_op op_add (pe_op op_add (pe_op op_mul (pv 5) (pv 5)) (pe_op op_mul pe_int (pv 5))) (pv 3)) pe_int))
      (pss_one (ps_ret (pe_op op_mod (pe_op op_fdiv (pv 5) pe_int) (pv 1)))))))))))), ?_⟩
    refine ⟨_, rfl, pa, _, 2, _, rfl, rfl, hx, rfl, gr, 0, rfl, rfl, _, rfl, ite2 (fun e => ?_) (fun e => ?_)⟩
    · refine ⟨_, rfl, pa, _, 2, _, rfl, rfl, hx, rfl, _, rfl, gr, m, rfl, rfl, hm, ?_⟩
      refine ⟨_, rfl, pa, _, 2, _, rfl, rfl, hx, rfl, _, rfl, gr, m, rfl, rfl, ⟨hm, by omega⟩, ?_⟩
      refine ⟨_, rfl, pa, _, 2, 2, rfl, rfl, hp, rfl, ?_⟩
      exact ⟨_, rfl, q _ _ (Int.emod_nonneg _ (by omega)) (Int.emod_lt_of_pos _ hm) (Off.at rfl) (pen.put hat (Int.ediv_nonneg hgr (by omega)))⟩
    · refine ⟨_, rfl, pa, _, 1, _, rfl, rfl, hx, rfl, ?_⟩
      refine ⟨_, rfl, at0, 1, rfl, rfl, ?_⟩
      refine ⟨_, rfl, pa, _, 1, 1, rfl, rfl, hp, rfl, ?_⟩
      have pen1 := pen.put (a := at0 + 1) (g := gr) (by omega) hgr
      have o1 : Off (isA pa) H (upd H pa (.lst [.ref sa, .int (at0 + 1), .int gr])) := Off.at rfl
      have hp1 : upd H pa (.lst [.ref sa, .int (at0 + 1), .int gr]) pa = some (.lst [.ref sa, .int (at0 + 1), .int gr]) := upd_same
      show tSeq _ _ _ _ (upd H pa (.lst [.ref sa, .int (at0 + 1), .int gr]))
      generalize upd H pa (.lst [.ref sa, .int (at0 + 1), .int gr]) = H1 at pen1 o1 hp1 ⊢
      have hx1 := ix3 (K := K) hp1
      have hs1 := pen1.scr
      -- the cell
      refine ⟨fun σ H2 => H2 = H1 ∧ ∃ c : Int, σ = [some (.ref pa), some (.int m), none, some (.int at0), some (.int c), none], ?_, ?_⟩
      · refine ⟨_, rfl, pa, _, 0, _, rfl, rfl, hx1, rfl, sa, _, rfl, .inl hs1, _, 0, rfl, rfl, _, rfl, ite2 (fun e2 => ?_) (fun e2 => ?_)⟩
        · have hl : (0 : Int) < ((ns.map V.int).length : Nat) := of_decide_eq_true e2
          have b1 := Int.emod_nonneg at0 (show ((ns.map V.int).length : Int) ≠ 0 by omega)
          have b2 := Int.emod_lt_of_pos at0 hl
          rw [List.length_map] at hl b1 b2
          have hj : (at0 % (ns.length : Int)).toNat < ns.length := by omega
          have gj := List.getElem?_eq_getElem hj
          refine ⟨_, rfl, pa, _, 0, _, rfl, rfl, hx1, rfl, _, rfl, _, rfl, pa, _, 0, _, rfl, rfl, hx1, rfl, sa, _, rfl, .inl hs1, at0, _, rfl, rfl, by rw [List.length_map]; exact hl, ?_⟩
          refine ⟨sa, _, ((at0 % (ns.length : Int)).toNat : Nat), _, rfl, ?_, hs1, atI_nat (get_int gj), rfl, ns[(at0 % (ns.length : Int)).toNat], rfl⟩
          show V.int (at0 % (((ns.map V.int).length : Nat) : Int)) = _
          rw [List.length_map, Int.toNat_of_nonneg b1]
        · exact ⟨rfl, 5, rfl⟩
      · rintro σ H2 ⟨rfl, c, rfl⟩
        refine and2 (c1 := decide (at0 < ((ns.map V.int).length : Nat))) (c2 := decide ((10 : Int) ^ 18 ≤ (if c < 0 then -c else c))) (fun Q' k => ⟨_, rfl, _, rfl, pa, _, 0, _, rfl, rfl, hx1, rfl, sa, _, rfl, .inl hs1, at0, _, rfl, rfl, _, rfl, k⟩) (fun Q' k => ⟨_, rfl, c, rfl, 10, 18, rfl, rfl, ⟨by decide, by decide, by decide⟩, _, _, rfl, rfl, _, rfl, k⟩) ?_
        have hab : 0 ≤ (if c < 0 then -c else c) := by split <;> omega
        refine ite2 (fun e2 => ?_) (fun e2 => ?_)
        · refine ⟨_, rfl, c, rfl, _, rfl, _, m, rfl, rfl, ⟨hm, by omega⟩, ?_⟩
          refine ⟨_, rfl, pa, _, 2, 2, rfl, rfl, hp1, rfl, ?_⟩
          exact ⟨_, rfl, c, rfl, _, rfl, _, m, rfl, rfl, hm, q _ _ (Int.emod_nonneg _ (by omega)) (Int.emod_lt_of_pos _ hm) (o1.trans (Off.at rfl)) (pen1.put (by omega) (Int.ediv_nonneg hab (by omega)))⟩
        · refine ⟨_, rfl, c, 2147483587, rfl, rfl, (show (0 : Int) < 2147483587 by decide), _, rfl, 40709, at0, rfl, rfl, .inl ⟨by decide, by decide⟩, _, _, rfl, rfl, _, _, rfl, rfl, _, _, rfl, rfl, .inr ⟨by decide, by decide⟩, _, _, rfl, rfl, (show (0 : Int) < 2147483647 by decide), ?_⟩
          generalize hn : ((c % 2147483587 + 40709 * at0 + 31) * 69621 % 2147483647 : Int) = n1
          have n1a : 0 ≤ n1 := by rw [← hn]; exact Int.emod_nonneg _ (by decide)
          have n1b : n1 < 2147483647 := by rw [← hn]; exact Int.emod_lt_of_pos _ (by decide)
          refine ⟨.int n1, by rw [← hn]; rfl, .int n1, by rw [← hn]; rfl, n1, n1, rfl, rfl, .inl ⟨by omega, by omega⟩, .int n1, by rw [← hn]; rfl, 48271, n1, rfl, rfl, .inl ⟨by decide, by decide⟩, _, _, rfl, rfl, .int at0, rfl, _, _, rfl, rfl, _, _, rfl, rfl, (show (0 : Int) < 2147483629 by decide), ?_⟩
          refine ⟨_, rfl, _, 64, rfl, rfl, ⟨by decide, by decide⟩, .int m, rfl, _, m, rfl, rfl, hm, ?_⟩
          exact q _ _ (Int.emod_nonneg _ (by omega)) (Int.emod_lt_of_pos _ hm) o1 pen1
end Bx

set_option Elab.async false
set_option linter.all false
set_option maxRecDepth 100000
set_option maxHeartbeats 1000000
/-! _law_number, _law_sides, _law_box. -/
namespace Bx
open PySem PySem.Spec PyProof.Rows L2
variable {P : Program} {w : World} {K : PySem.W.Frag} {mg : Str → Option Value} {base : Heap}
def BIG : Int := 1000000000000000000000000000
def sp__law_number (K : PySem.W.Frag) : Sp := fun vs H Q _ => ∃ (pa s : Addr) (ns : List Int), vs = [.ref pa] ∧ PenAt K H pa s ns ∧ ∀ (n : Int) H', -BIG ≤ n → n ≤ BIG → Off (isA pa) H H' → PenAt K H' pa s ns → Q (.int n) H'
theorem c__law_number (T : Tx K mg) : Cal P w K mg base 2 "_law_number" (sp__law_number K) := by
  have C__law_take := c__law_take (P := P) (w := w) (base := base) T
  refine cal_of T.d__law_number sc__law_number (fun vs H Q E h => ?_) (fun f cdv A outer s H vs Q E hr h => ?_)
  · obtain ⟨_, _, _, rfl, _⟩ := h; rfl
  · obtain ⟨pa, sa, ns, rfl, pen, q⟩ := h
    refine ⟨_, (pss_cons (ps_set (i := 1) sc__law_number.nd rfl (Or.inl rfl) (pe_c C__law_take hr (by decide) (by rfl) (pa_cons (pv 0) (pa_cons pe_int pa_nil))))
      (pss_cons (ps_if (pt_cmpR op_eq (pv 1) pe_int (nomark _)) (pss_one (ps_ret (pe_op op_mul (pe_op op_sub (pe_op op_sub (pe_op op_pow pe_int pe_int) pe_int) (pe_c C__law_take hr (by decide) (by rfl) (pa_cons (pv 0) (pa_cons pe_int pa_nil)))) (pe_op op_sub pe_int (pe_op op_mul pe_int (pe_c C__law_take hr (by decide) (by rfl) (pa_cons (pv 0) (pa_cons pe_int pa_nil)))))))) pss_nil)
      (pss_cons (ps_if (pt_cmpR op_gt (pv 1) pe_int (nomark _)) (pss_one (ps_ret (pe_op op_sub (pe_c C__law_take hr (by decide) (by rfl) (pa_cons (pv 0) (pa_cons pe_int pa_nil))) pe_int))) pss_nil)
      (pss_one (ps_ret (pe_op op_sub (pe_c C__law_take hr (by decide) (by rfl) (pa_cons (pv 0) (pa_cons pe_int pa_nil))) pe_int)))))), ?_⟩
    refine ⟨_, rfl, pa, sa, ns, 12, rfl, pen, by decide, by decide, fun r H1 h0 h1 o1 p1 => ?_⟩
    refine ⟨_, rfl, rfl, _, rfl, ite2 (fun e => ?_) (fun e => ?_)⟩
    · refine ⟨10, 27, rfl, rfl, ⟨by decide, by decide, by decide⟩, _, 1, rfl, rfl, _, rfl, pa, sa, ns, 3, rfl, p1, by decide, by decide, fun r3 H3 a0 a1 o3 p3 => ?_⟩
      refine ⟨_, r3, rfl, rfl, _, rfl, pa, sa, ns, 2, rfl, p3, by decide, by decide, fun r2 H2 b0 b1 o2 p2 => ?_⟩
      refine ⟨2, r2, rfl, rfl, .inl ⟨by decide, by decide⟩, 1, _, rfl, rfl, _, _, rfl, rfl, .inr ⟨by omega, by omega⟩, ?_⟩
      have e10 : (10 : Int) ^ (27 : Int).toNat = 1000000000000000000000000000 := by decide
      rw [e10]
      refine q _ H2 ?_ ?_ ((o1.trans o3).trans o2) p2
      · unfold BIG
        rcases (show r2 = 0 ∨ r2 = 1 by omega) with z | z <;> subst z <;> omega
      · unfold BIG
        rcases (show r2 = 0 ∨ r2 = 1 by omega) with z | z <;> subst z <;> omega
    · refine ⟨_, rfl, _, _, rfl, rfl, _, rfl, ite2 (fun e => ?_) (fun e => ?_)⟩
      · refine ⟨_, rfl, pa, sa, ns, 2000, rfl, p1, by decide, by decide, fun r2 H2 b0 b1 o2 p2 => ⟨r2, 1000, rfl, rfl, ?_⟩⟩
        exact q _ H2 (by unfold BIG; omega) (by unfold BIG; omega) (o1.trans o2) p2
      · refine ⟨_, rfl, pa, sa, ns, 7, rfl, p1, by decide, by decide, fun r2 H2 b0 b1 o2 p2 => ⟨r2, 3, rfl, rfl, ?_⟩⟩
        exact q _ H2 (by unfold BIG; omega) (by unfold BIG; omega) (o1.trans o2) p2

theorem PenAt.ne {H : Hp} {pa s x : Addr} {ns : List Int} (p : PenAt K H pa s ns) (h : H x = none) : x ≠ pa := by
  obtain ⟨_, _, e, _⟩ := p.pen
  exact (ne_of_none e h).symm
theorem PenAt.new {H : Hp} {pa s x : Addr} {o : HO} {ns : List Int} (p : PenAt K H pa s ns) (h : H x = none) : PenAt K (L2.upd H x o) pa s ns := p.same (same_new h)
theorem LeA.trans : ∀ {a b c : List Int}, LeA a b → LeA b c → LeA a c
  | [], [], [], _, _ => trivial
  | [], [], _ :: _, _, h => h.elim
  | [], _ :: _, _, h, _ => h.elim
  | _ :: _, [], _, h, _ => h.elim
  | _ :: _, _ :: _, [], _, h => h.elim
  | _ :: _, _ :: _, _ :: _, h1, h2 => ⟨⟨h1.1.1, Int.le_trans h1.1.2 h2.1.2⟩, LeA.trans h1.2 h2.2⟩
theorem sides_of : ∀ {g : List Int} {ys : List V}, Paired (fun (s : Int) y => ∃ v : Int, y = V.int v ∧ 1 ≤ v ∧ v ≤ s) g ys → ∃ sd : List Int, ys = sd.map V.int ∧ LeA sd g
  | [], [], .nil => ⟨[], rfl, trivial⟩
  | s :: g, _ :: ys, .cons ⟨v, e, h1, h2⟩ t => by
    obtain ⟨sd, e2, h⟩ := sides_of t
    exact ⟨v :: sd, by rw [e, e2]; rfl, ⟨h1, h2⟩, h⟩
/-- the choice of a list out of some -/
theorem pick2 {H : Hp} {la lb : Addr} {a b : List V} {r : Int} (h0 : 0 ≤ r) (h1 : r < 2) (ha : H la = some (.lst a)) (hb : H lb = some (.lst b)) : ∃ x g, atI [V.ref la, V.ref lb] r = some (.ref x) ∧ H x = some (.lst g) ∧ (g = a ∨ g = b) := by
  rcases (show r = 0 ∨ r = 1 by omega) with z | z <;> subst z
  · exact ⟨la, a, rfl, ha, .inl rfl⟩
  · exact ⟨lb, b, rfl, hb, .inr rfl⟩
theorem pick3 {H : Hp} {la lb lc : Addr} {a b c : List V} {r : Int} (h0 : 0 ≤ r) (h1 : r < 3) (ha : H la = some (.lst a)) (hb : H lb = some (.lst b)) (hc : H lc = some (.lst c)) : ∃ x g, atI [V.ref la, V.ref lb, V.ref lc] r = some (.ref x) ∧ H x = some (.lst g) ∧ (g = a ∨ g = b ∨ g = c) := by
  rcases (show r = 0 ∨ r = 1 ∨ r = 2 by omega) with z | z | z <;> subst z
  · exact ⟨la, a, rfl, ha, .inl rfl⟩
  · exact ⟨lb, b, rfl, hb, .inr (.inl rfl)⟩
  · exact ⟨lc, c, rfl, hc, .inr (.inr rfl)⟩
/-- x is some list of most sides -/
def MostAt (H : Hp) (pa x : Addr) : Prop := x ≠ pa ∧ ∃ g g' : List Int, H x = some (.lst (g.map V.int)) ∧ g' ∈ grids ∧ LeA g g' ∧ g.length ≤ 3 ∧ 0 < g.length
theorem most_in {H : Hp} {pa x : Addr} {g : List V} (hx : x ≠ pa) (h : H x = some (.lst g)) (l : List Int) (e : g = l.map V.int) (k : ∃ g' ∈ grids, LeA l g') : MostAt H pa x := by
  obtain ⟨g', h1, h2⟩ := k
  refine ⟨hx, l, g', by rw [← e]; exact h, h1, h2, ?_, ?_⟩
  · rw [h2.len]; exact grid_all (Pr := fun g => g.length ≤ 3) (by decide +kernel) h1
  · rw [h2.len]; exact grid_all (Pr := fun g => 0 < g.length) (by decide +kernel) h1
def sp__law_sides (K : PySem.W.Frag) : Sp := fun vs H Q _ => ∃ (pa s : Addr) (ns : List Int), vs = [.ref pa] ∧ PenAt K H pa s ns ∧ ∀ (a : Addr) (sd : List Int) H', WS sd → PlAt H' a sd → Off (isA pa) H H' → PenAt K H' pa s ns → Q (.ref a) H'
theorem c__law_sides (T : Tx K mg) : Cal P w K mg base 2 "_law_sides" (sp__law_sides K) := by
  have C__law_take := c__law_take (P := P) (w := w) (base := base) T
  refine cal_of T.d__law_sides sc__law_sides (fun vs H Q E h => ?_) (fun f cdv A outer s H vs Q E hr h => ?_)
  · obtain ⟨_, _, _, rfl, _⟩ := h; rfl
  · obtain ⟨pa, sa, ns, rfl, pen, q⟩ := h
    refine ⟨_, (pss_cons (ps_set (i := 1) sc__law_sides.nd rfl (Or.inl rfl) (pe_ix (ix_list : IxR _ (rIxL K)) (pe_lst (pa_cons (pe_lst (pa_cons pe_int pa_nil)) (pa_cons (pe_lst (pa_cons pe_int (pa_cons pe_int pa_nil))) (pa_cons (pe_lst (pa_cons pe_int (pa_cons pe_int (pa_cons pe_int pa_nil)))) pa_nil)))) (pe_c C__law_take hr (by decide) (by rfl) (pa_cons (pv 0) (pa_cons pe_int pa_nil))) (fun _ _ => rfl)))
      (C8.pss_cut (ps_if (pt_cmpR op_eq (pe_c C__law_take hr (by decide) (by rfl) (pa_cons (pv 0) (pa_cons pe_int pa_nil))) pe_int (nomark _)) (pss_cons (ps_set (i := 2) sc__law_sides.nd rfl (Or.inl rfl) (pe_c C__law_take hr (by decide) (by rfl) (pa_cons (pv 0) (pa_cons pe_int pa_nil))))
      (pss_one (ps_set (i := 1) sc__law_sides.nd rfl (Or.inl rfl) (pe_ix (ix_list : IxR _ (rIxL K)) (pe_lst (pa_cons (pe_lst (pa_cons pe_int pa_nil)) (pa_cons (pe_ix (ix_list : IxR _ (rIxL K)) (pe_lst (pa_cons (pe_lst (pa_cons pe_int (pa_cons pe_int pa_nil))) (pa_cons (pe_lst (pa_cons pe_int (pa_cons pe_int pa_nil))) pa_nil))) (pv 2) (fun _ _ => rfl)) (pa_cons (pe_ix (ix_list : IxR _ (rIxL K)) (pe_lst (pa_cons (pe_lst (pa_cons pe_int (pa_cons pe_int (pa_cons pe_int pa_nil)))) (pa_cons (pe_lst (pa_cons pe_int (pa_cons pe_int (pa_cons pe_int pa_nil)))) pa_nil))) (pv 2) (fun _ _ => rfl)) pa_nil)))) (pe_op op_sub (pe_callB call_len_seq (by rfl) T.z_len PySem.boot_len (pa_cons (pv 1) pa_nil)) pe_int) (fun _ _ => rfl))))) pss_nil)
      (pss_one (ps_ret (pe_callTy call_tupA (by rfl) T.z_tuple (by decide +kernel) (pa_cons (pe_lc (own := [("_law_side", 3)]) (g := (gName 3)) (tt := tYes) rfl sc__law_sides.nd (pi_list (pv 1)) (blkOk_by (N := ["_law_pen_here", "_law_most_here", "_law_wide", "_law_side"]) (sc := defScope s__law_sides) (by decide +kernel)) (fun _ _ _ _ _ => (pg_name (i := 3) sc__law_sides.nd rfl (Or.inl rfl))) (fun _ _ _ _ _ => pts_nil) (fun _ _ _ _ _ => (pe_op op_add pe_int (pe_c C__law_take hr (by decide) (by rfl) (pa_cons (pv 0) (pa_cons (pv 3) pa_nil)))))) pa_nil)))))), ?_⟩
    refine ⟨small_le (by show 1 ≤ _; decide), fun l1 n1 => ⟨small_le (by show 2 ≤ _; decide), fun l2 n2 => ⟨small_le (by show 3 ≤ _; decide), fun l3 n3 => ⟨small_le (by show 3 ≤ _; decide), fun l0 n0 => ?_⟩⟩⟩⟩
    have s1 := same_new (o := .lst [V.int 16]) n1
    have s2 := same_new (o := .lst [V.int 6, V.int 5]) n2
    have s3 := same_new (o := .lst [V.int 3, V.int 3, V.int 3]) n3
    have s0 := same_new (o := .lst [V.ref l1, V.ref l2, V.ref l3]) n0
    have sA := s1.trans (s2.trans (s3.trans s0))
    refine ⟨_, rfl, pa, sa, ns, 3, rfl, pen.same sA, by decide, by decide, fun r H5 h0 h1 o5 p5 => ?_⟩
    have m1 := pen.ne n1
    have m2 := (pen.same s1).ne n2
    have m3 := ((pen.same s1).same s2).ne n3
    have m0 := (((pen.same s1).same s2).same s3).ne n0
    have e1 := o5 _ _ m1 (s0 _ _ (s3 _ _ (s2 _ _ (show L2.upd H l1 (.lst [V.int 16]) l1 = _ from upd_same))))
    have e2 := o5 _ _ m2 (s0 _ _ (s3 _ _ (show L2.upd _ l2 (.lst [V.int 6, V.int 5]) l2 = _ from upd_same)))
    have e3 := o5 _ _ m3 (s0 _ _ (show L2.upd _ l3 (.lst [V.int 3, V.int 3, V.int 3]) l3 = _ from upd_same))
    have e0 := o5 _ _ m0 (show L2.upd _ l0 (.lst [V.ref l1, V.ref l2, V.ref l3]) l0 = _ from upd_same)
    have o05 : Off (isA pa) H H5 := (same_off sA).trans o5
    have pk : ∃ x, atI [V.ref l1, V.ref l2, V.ref l3] r = some (.ref x) ∧ MostAt H5 pa x := by
      rcases (show r = 0 ∨ r = 1 ∨ r = 2 by omega) with z | z | z <;> subst z
      · exact ⟨l1, rfl, most_in m1 e1 [16] rfl ⟨[120], by decide, ⟨by decide, by decide⟩, trivial⟩⟩
      · exact ⟨l2, rfl, most_in m2 e2 [6, 5] rfl ⟨[10, 6], by decide, ⟨by decide, by decide⟩, ⟨by decide, by decide⟩, trivial⟩⟩
      · exact ⟨l3, rfl, most_in m3 e3 [3, 3, 3] rfl ⟨[4, 4, 4], by decide, ⟨by decide, by decide⟩, ⟨by decide, by decide⟩, ⟨by decide, by decide⟩, trivial⟩⟩
    obtain ⟨x, gx, hx⟩ := pk
    refine ⟨l0, _, r, .ref x, rfl, rfl, .inl (.inl e0), gx, ?_⟩
    -- the second choice
    refine ⟨fun σ H6 => Off (isA pa) H H6 ∧ PenAt K H6 pa sa ns ∧ ∃ (x : Addr) (y2 y3 : Option V), σ = [some (.ref pa), some (.ref x), y2, y3] ∧ MostAt H6 pa x, ?_, ?_⟩
    · refine ⟨_, rfl, pa, sa, ns, 8, rfl, p5, by decide, by decide, fun r8 H8 a0 a1 o8 p8 => ⟨rfl, _, rfl, ite2 (fun e => ?_) (fun e => ?_)⟩⟩
      · refine ⟨_, rfl, pa, sa, ns, 2, rfl, p8, by decide, by decide, fun rw H9 b0 b1 o9 p9 => ?_⟩
        have o09 := (o05.trans o8).trans o9
        obtain ⟨hxp, g, g', hg, _, _, hl3, hl0⟩ := hx
        have hg9 := o9 _ _ hxp (o8 _ _ hxp hg)
        refine ⟨small_le (by show 1 ≤ _; decide), fun k1 c1 => ⟨small_le (by show 2 ≤ _; decide), fun k2 c2 => ⟨small_le (by show 2 ≤ _; decide), fun k3 c3 => ⟨small_le (by show 2 ≤ _; decide), fun k4 c4 => ?_⟩⟩⟩⟩
        have t1 := same_new (o := .lst [V.int 120]) c1
        have t2 := same_new (o := .lst [V.int 10, V.int 6]) c2
        have t3 := same_new (o := .lst [V.int 2, V.int 30]) c3
        have t4 := same_new (o := .lst [V.ref k2, V.ref k3]) c4
        obtain ⟨x2, g2, at2, hx2, eg2⟩ := pick2 b0 b1 (t4 _ _ (t3 _ _ (show L2.upd _ k2 (.lst [V.int 10, V.int 6]) k2 = _ from upd_same))) (t4 _ _ (show L2.upd _ k3 (.lst [V.int 2, V.int 30]) k3 = _ from upd_same))
        refine ⟨.int rw, rfl, k4, _, rw, .ref x2, rfl, rfl, .inl (.inl upd_same), at2, ?_⟩
        refine ⟨small_le (by show 3 ≤ _; decide), fun k5 c5 => ⟨small_le (by show 3 ≤ _; decide), fun k6 c6 => ⟨small_le (by show 2 ≤ _; decide), fun k7 c7 => ?_⟩⟩⟩
        have t5 := same_new (o := .lst [V.int 4, V.int 4, V.int 4]) c5
        have t6 := same_new (o := .lst [V.int 2, V.int 2, V.int 14]) c6
        have t7 := same_new (o := .lst [V.ref k5, V.ref k6]) c7
        obtain ⟨x3, g3, at3, hx3, eg3⟩ := pick2 b0 b1 (t7 _ _ (t6 _ _ (show L2.upd _ k5 (.lst [V.int 4, V.int 4, V.int 4]) k5 = _ from upd_same))) (t7 _ _ (show L2.upd _ k6 (.lst [V.int 2, V.int 2, V.int 14]) k6 = _ from upd_same))
        refine ⟨.int rw, rfl, k7, _, rw, .ref x3, rfl, rfl, .inl (.inl upd_same), at3, small_le (by show 3 ≤ _; decide), fun k8 c8 => ?_⟩
        have t8 := same_new (o := .lst [V.ref k1, V.ref x2, V.ref x3]) c8
        have t14 := t1.trans (t2.trans (t3.trans t4))
        have t57 := t5.trans (t6.trans t7)
        have tall := (t14.trans t57).trans t8
        have f1 := t8 _ _ (t57 _ _ (t4 _ _ (t3 _ _ (t2 _ _ (show L2.upd _ k1 (.lst [V.int 120]) k1 = _ from upd_same)))))
        have f2 := t8 _ _ (t57 _ _ hx2)
        have f3 := t8 _ _ hx3
        have pA := p9.same tall
        have hgA := tall _ _ hg9
        refine ⟨.ref x, rfl, x, _, rfl, .inl (.inl (.inl hgA)), _, 1, rfl, rfl, ?_⟩
        have kl1 : (0 : Int) ≤ ((g.map V.int).length : Nat) - 1 := by rw [List.length_map]; omega
        have kl2 : (((g.map V.int).length : Nat) : Int) - 1 < 3 := by rw [List.length_map]; omega
        obtain ⟨xm, gm, atm, hm, egm⟩ := pick3 kl1 kl2 f1 f2 f3
        refine ⟨k8, _, _, .ref xm, rfl, rfl, .inl (.inl upd_same), atm, ?_⟩
        have hxm : xm ≠ pa := by
          obtain ⟨_, _, z, _⟩ := pA.pen
          intro ee
          subst ee
          rw [hm] at z
          have z2 := Option.some.inj z
          injection z2 with z3
          rcases egm with rfl | rfl | rfl
          · cases z3
          · rcases eg2 with rfl | rfl <;> cases z3
          · rcases eg3 with rfl | rfl <;> cases z3
        refine ⟨o09.trans (same_off tall), pA, xm, _, _, rfl, ?_⟩
        rcases egm with rfl | rfl | rfl
        · exact most_in hxm hm [120] rfl ⟨[120], by decide, ⟨by decide, by decide⟩, trivial⟩
        · rcases eg2 with rfl | rfl
          · exact most_in hxm hm [10, 6] rfl ⟨[10, 6], by decide, ⟨by decide, by decide⟩, ⟨by decide, by decide⟩, trivial⟩
          · exact most_in hxm hm [2, 30] rfl ⟨[2, 30], by decide, ⟨by decide, by decide⟩, ⟨by decide, by decide⟩, trivial⟩
        · rcases eg3 with rfl | rfl
          · exact most_in hxm hm [4, 4, 4] rfl ⟨[4, 4, 4], by decide, ⟨by decide, by decide⟩, ⟨by decide, by decide⟩, ⟨by decide, by decide⟩, trivial⟩
          · exact most_in hxm hm [2, 2, 14] rfl ⟨[2, 2, 14], by decide, ⟨by decide, by decide⟩, ⟨by decide, by decide⟩, ⟨by decide, by decide⟩, trivial⟩
      · obtain ⟨hxp, g, g', hg, h1', h2', hl3, hl0⟩ := hx
        exact ⟨o05.trans o8, p8, x, _, _, rfl, hxp, g, g', o8 _ _ hxp hg, h1', h2', hl3, hl0⟩
    · rintro σ H6 ⟨o6, p6, x, y2, y3, rfl, hxp, g, g', hg, hgg, hle, hl3, hl0⟩
      refine ⟨.ref x, rfl, x, rfl, ⟨_, .inl (.inl hg)⟩, fun D hD => ?_⟩
      refine lc_all g (fun s _ y => ∃ v : Int, y = V.int v ∧ 1 ≤ v ∧ v ≤ s) (S := isA pa) (fun H => PenAt K H pa sa ns) (walk_list (xs := g.map V.int)) (by simp) (small_le (by rw [List.length_map]; omega)) hD (p6.ne hD) p6
        (fun H7 o _ p => p.upd (p6.ne hD).symm (apart_new p6.scr hD)) (fun H7 o _ => .inl (.inl (o _ _ hxp hg))) (fun _ _ _ _ _ _ _ h => h) (fun i s v H7 H8 hs o p _ yy Qy k => ?_) (fun H7 ys o p hd hp => ?_)
      · obtain ⟨rfl, rfl⟩ := yat_map yy hs
        have hm := List.mem_of_getElem? hs
        have b1 := hle.ps s hm
        have b2 := hle.sm (grid_all (Pr := fun g => ∀ x ∈ g, x ≤ 120) (by decide +kernel) hgg) s hm
        exact ⟨rfl, _, rfl, _, rfl, pa, sa, ns, s, rfl, p, by omega, by omega, fun r H9 c0 c1 o9 p9 => ⟨1, r, rfl, rfl, k _ _ o9 p9 ⟨1 + r, rfl, by omega, by omega⟩⟩⟩
      · obtain ⟨sd, rfl, hsd⟩ := sides_of hp
        exact ⟨D, _, rfl, .inl ⟨.inl (.inl hd), fun a na => q a sd _ ⟨g', hgg, hsd.trans hle⟩ upd_same ((o6.trans o).trans (same_off (same_new na))) (p.new na)⟩⟩
end Bx

set_option Elab.async false
set_option linter.all false
set_option maxRecDepth 100000
set_option maxHeartbeats 1000000
/-! _law_box, _law_field. -/
namespace Bx
open PySem PySem.Spec PyProof.Rows L2
variable {P : Program} {w : World} {K : PySem.W.Frag} {mg : Str → Option Value} {base : Heap}
theorem okB_all : ∀ {sd : List Int}, Pos1 sd → OkB sd (sd.map fun _ => 0) (sd.map fun s => s - 1)
  | [], _ => trivial
  | s :: sd, h => ⟨⟨Int.le_refl 0, (by have := h s List.mem_cons_self; show (0 : Int) ≤ s - 1; omega), (by show s - 1 < s; omega)⟩, okB_all fun x hx => h x (List.mem_cons_of_mem _ hx)⟩
theorem low_of : ∀ {sd : List Int} {ys : List V}, Paired (fun (s : Int) y => ∃ v : Int, y = V.int v ∧ 0 ≤ v ∧ v < s) sd ys → ∃ p : Pl, ys = p.map V.int ∧ OkP sd p
  | [], [], .nil => ⟨[], rfl, trivial⟩
  | s :: sd, _ :: ys, .cons ⟨v, e, h1, h2⟩ t => by
    obtain ⟨p, e2, h⟩ := low_of t
    exact ⟨v :: p, by rw [e, e2]; rfl, ⟨h1, h2⟩, h⟩
theorem high_of : ∀ {sd : List Int} {p : Pl} {ys : List V}, OkP sd p → Paired (fun (q : Int × Int) y => ∃ v : Int, y = V.int v ∧ q.1 ≤ v ∧ v < q.2) (p.zip sd) ys → ∃ h : Pl, ys = h.map V.int ∧ OkB sd p h
  | [], [], _, _, h => by
    cases h; exact ⟨[], rfl, trivial⟩
  | [], _ :: _, _, h, _ => h.elim
  | _ :: _, [], _, h, _ => h.elim
  | s :: sd, x :: p, [], _, h => by cases h
  | s :: sd, x :: p, _ :: ys, ok, .cons ⟨v, e, h1, h2⟩ t => by
    obtain ⟨h, e2, hh⟩ := high_of ok.2 t
    exact ⟨v :: h, by rw [e, e2]; rfl, ⟨ok.1.1, h1, h2⟩, hh⟩
def sp__law_box (K : PySem.W.Frag) : Sp := fun vs H Q _ => ∃ (pa s a : Addr) (ns sd : List Int), vs = [.ref pa, .ref a] ∧ PenAt K H pa s ns ∧ PlAt H a sd ∧ WS sd ∧ ∀ (c : Addr) (b : Box) H', OkB sd b.1 b.2 → BxAt H' c b → Off (isA pa) H H' → PenAt K H' pa s ns → Q (.ref c) H'
theorem c__law_box (T : Tx K mg) : Cal P w K mg base 2 "_law_box" (sp__law_box K) := by
  have C__law_take := c__law_take (P := P) (w := w) (base := base) T
  refine cal_of T.d__law_box sc__law_box (fun vs H Q E h => ?_) (fun f cdv A outer s H vs Q E hr h => ?_)
  · obtain ⟨_, _, _, _, _, rfl, _⟩ := h; rfl
  · obtain ⟨pa, sa, a, ns, sd, rfl, pen, ha, ws, q⟩ := h
    have hl := ws.len
    refine ⟨_, (pss_cons (ps_set (i := 2) sc__law_box.nd rfl (Or.inl rfl) (pe_c C__law_take hr (by decide) (by rfl) (pa_cons (pv 0) (pa_cons pe_int pa_nil))))
      (pss_cons (ps_if (pt_cmpR op_eq (pv 2) pe_int (nomark _)) (pss_one (ps_ret (pe_tup (pa_cons (pe_callTy call_tupA (by rfl) T.z_tuple (by decide +kernel) (pa_cons (pe_lc (own := [("_law_side", 5)]) (g := (gName 5)) (tt := tYes) rfl sc__law_box.nd (pi_tup (pv 1)) (blkOk_by (N := ["_law_pen_here", "_law_sides_here", "_law_way", "_law_low", "_law_high", "_law_side", "_law_a"]) (sc := defScope s__law_box) (by decide +kernel)) (fun _ _ _ _ _ => (pg_name (i := 5) sc__law_box.nd rfl (Or.inl rfl))) (fun _ _ _ _ _ => pts_nil) (fun _ _ _ _ _ => pe_int)) pa_nil)) (pa_cons (pe_callTy call_tupA (by rfl) T.z_tuple (by decide +kernel) (pa_cons (pe_lc (own := [("_law_side", 5)]) (g := (gName 5)) (tt := tYes) rfl sc__law_box.nd (pi_tup (pv 1)) (blkOk_by (N := ["_law_pen_here", "_law_sides_here", "_law_way", "_law_low", "_law_high", "_law_side", "_law_a"]) (sc := defScope s__law_box) (by decide +kernel)) (fun _ _ _ _ _ => (pg_name (i := 5) sc__law_box.nd rfl (Or.inl rfl))) (fun _ _ _ _ _ => pts_nil) (fun _ _ _ _ _ => (pe_op op_sub (pv 5) pe_int))) pa_nil)) pa_nil))))) pss_nil)
      (pss_cons (ps_setLc (i := 3) (own := [("_law_side", 5)]) (g := (gName 5)) (tt := tYes) rfl sc__law_box.nd rfl rfl (sw_true rfl rfl rfl (by decide +kernel)) (pi_tup (pv 1)) (blkOk_by (N := ["_law_pen_here", "_law_sides_here", "_law_way", "_law_low", "_law_high", "_law_side", "_law_a"]) (sc := defScope s__law_box) (by decide +kernel)) (fun _ _ _ _ _ => (pg_name (i := 5) sc__law_box.nd rfl (Or.inl rfl))) (fun _ _ _ _ _ => pts_nil) (fun _ _ _ _ _ => (pe_c C__law_take hr (by decide) (by rfl) (pa_cons (pv 0) (pa_cons (pv 5) pa_nil)))))
      (pss_cons (ps_if (pt_cmpR op_eq (pv 2) pe_int (nomark _)) (pss_one (ps_ret (pe_tup (pa_cons (pe_callTy call_tupA (by rfl) T.z_tuple (by decide +kernel) (pa_cons (pv 3) pa_nil)) (pa_cons (pe_callTy call_tupA (by rfl) T.z_tuple (by decide +kernel) (pa_cons (pv 3) pa_nil)) pa_nil))))) pss_nil)
      (pss_cons (ps_setLc (i := 4) (own := [("_law_a", 6), ("_law_side", 5)]) (g := (gTup K 2 (gCons (gName 6) (gCons (gName 5) gNil)))) (tt := tYes) rfl sc__law_box.nd rfl rfl (sw_true rfl rfl rfl (by decide +kernel)) (pi_zip2 (by rfl) T.z_zip (pa_cons (pv 3) (pa_cons (pv 1) pa_nil))) (blkOk_by (N := ["_law_pen_here", "_law_sides_here", "_law_way", "_law_low", "_law_high", "_law_side", "_law_a"]) (sc := defScope s__law_box) (by decide +kernel)) (fun _ _ _ _ _ => (pg_tup rfl (pgs_cons (pg_name (i := 6) sc__law_box.nd rfl (Or.inl rfl)) (pgs_cons (pg_name (i := 5) sc__law_box.nd rfl (Or.inl rfl)) pgs_nil)))) (fun _ _ _ _ _ => pts_nil) (fun _ _ _ _ _ => (pe_op op_add (pv 6) (pe_c C__law_take hr (by decide) (by rfl) (pa_cons (pv 0) (pa_cons (pe_op op_sub (pv 5) (pv 6)) pa_nil))))))
      (pss_one (ps_ret (pe_tup (pa_cons (pe_callTy call_tupA (by rfl) T.z_tuple (by decide +kernel) (pa_cons (pv 3) pa_nil)) (pa_cons (pe_callTy call_tupA (by rfl) T.z_tuple (by decide +kernel) (pa_cons (pv 4) pa_nil)) pa_nil)))))))))), ?_⟩
    refine ⟨_, rfl, pa, sa, ns, 6, rfl, pen, by decide, by decide, fun r H1 h0 h1 o1 p1 => ?_⟩
    have ha1 := ha.tu (pen.tu o1)
    refine ⟨_, rfl, rfl, _, rfl, ite2 (fun e => ?_) (fun e => ?_)⟩
    · refine ⟨.ref a, rfl, a, rfl, ⟨_, .inl (.inl ha1)⟩, fun D hD => ?_⟩
      refine lc_vals sd (fun _ => .int 0) (walk_tup (xs := sd.map V.int)) (by simp) (small_le (by rw [List.length_map]; omega)) hD (fun H' s => .inl (.inl (s _ _ ha1))) (fun i s v H3 H4 hs s3 yy Qy k => ?_) (fun H3 s3 hd => ?_)
      · exact ⟨rfl, k _ (by obtain ⟨rfl, _⟩ := yy; exact Same.refl _)⟩
      refine ⟨D, _, rfl, .inl ⟨.inl (.inl hd), fun x nx => ?_⟩⟩
      have sx := same_new (o := .tup (sd.map fun _ => V.int 0)) nx
      have s13 := s3.trans sx
      have ha3 := s13 _ _ ha1
      refine ⟨.ref a, rfl, a, rfl, ⟨_, .inl (.inl ha3)⟩, fun D2 hD2 => ?_⟩
      refine lc_vals sd (fun s => .int (s - 1)) (walk_tup (xs := sd.map V.int)) (by simp) (small_le (by rw [List.length_map]; omega)) hD2 (fun H' s => .inl (.inl (s _ _ ha3))) (fun i s v H5 H6 hs s5 yy Qy k => ?_) (fun H5 s5 hd2 => ?_)
      · obtain ⟨rfl, rfl⟩ := yat_map yy hs
        exact ⟨rfl, _, rfl, s, 1, rfl, rfl, k _ (Same.refl _)⟩
      refine ⟨D2, _, rfl, .inl ⟨.inl (.inl hd2), fun y ny => ⟨small_le (by show 2 ≤ _; decide), fun c nc => ?_⟩⟩⟩
      have sy := same_new (o := .tup (sd.map fun s => V.int (s - 1))) ny
      have sc := same_new (o := .tup [V.ref x, V.ref y]) nc
      have sAll := s13.trans (s5.trans (sy.trans sc))
      refine q c (sd.map fun _ => 0, sd.map fun s => s - 1) _ (okB_all ws.ps) ⟨x, y, upd_same, ?_, ?_⟩ (o1.trans (same_off sAll)) (p1.same sAll)
      · have : PlAt (L2.upd H3 x (.tup (sd.map fun _ => V.int 0))) x (sd.map fun _ => 0) := by unfold PlAt; rw [upd_same, List.map_map]; rfl
        exact this.tu (Same.tu (s5.trans (sy.trans sc)))
      · have : PlAt (L2.upd H5 y (.tup (sd.map fun s => V.int (s - 1)))) y (sd.map fun s => s - 1) := by unfold PlAt; rw [upd_same, List.map_map]; rfl
        exact this.tu (Same.tu sc)
    -- low
    refine ⟨.ref a, rfl, a, rfl, ⟨_, .inl (.inl ha1)⟩, fun D hD => ?_⟩
    refine lc_all sd (fun s _ y => ∃ v : Int, y = V.int v ∧ 0 ≤ v ∧ v < s) (S := isA pa) (fun H => PenAt K H pa sa ns) (walk_tup (xs := sd.map V.int)) (by simp) (small_le (by rw [List.length_map]; omega)) hD (p1.ne hD) p1
      (fun H7 o _ p => p.upd (p1.ne hD).symm (apart_new p1.scr hD)) (fun H7 o p => .inl (.inl (ha1.tu (p1.tu o)))) (fun _ _ _ _ _ _ _ h => h) (fun i s v H7 H8 hs o p _ yy Qy k => ?_) (fun H2 ys o2 p2 hd hp => ?_)
    · obtain ⟨rfl, rfl⟩ := yat_map yy hs
      have hm := List.mem_of_getElem? hs
      have b1 := ws.ps s hm
      have b2 := ws.sm s hm
      exact ⟨rfl, _, rfl, _, rfl, pa, sa, ns, s, rfl, p, by omega, by omega, fun r H9 c0 c1 o9 p9 => k _ _ o9 p9 ⟨r, rfl, c0, c1⟩⟩
    obtain ⟨low, rfl, okl⟩ := low_of hp
    have ha2 := ha1.tu (p1.tu o2)
    have o12 := o1.trans o2
    have ll : low.length = sd.length := okl.len
    refine ⟨_, rfl, rfl, _, rfl, ite2 (fun e => ?_) (fun e => ?_)⟩
    · refine ⟨.ref D, rfl, D, _, rfl, .inl ⟨.inl (.inl hd), fun x nx => ?_⟩⟩
      have sx := same_new (o := .tup (low.map V.int)) nx
      refine ⟨.ref D, rfl, D, _, rfl, .inl ⟨.inl (.inl (sx _ _ hd)), fun y ny => ⟨small_le (by show 2 ≤ _; decide), fun c nc => ?_⟩⟩⟩
      have sy := same_new (o := .tup (low.map V.int)) ny
      have sc := same_new (o := .tup [V.ref x, V.ref y]) nc
      have sAll := sx.trans (sy.trans sc)
      exact q c (low, low) _ (OkB.of_place okl) ⟨x, y, upd_same, sc _ _ (sy _ _ upd_same), sc _ _ upd_same⟩ (o12.trans (same_off sAll)) (p2.same sAll)
    · have hDp := p1.ne hD
      refine ⟨.ref D, rfl, .ref a, rfl, (false, D, low.map V.int), (true, a, sd.map V.int), sd.length, rfl, .inl (.inl hd), src_pl ha2, by simp [ll], by simp, fun Z hZ => ?_⟩
      refine lc_all (low.zip sd) (fun q _ y => ∃ v : Int, y = V.int v ∧ q.1 ≤ v ∧ v < q.2) (S := isA pa) (fun H => PenAt K H pa sa ns) walk_src (by rw [List.length_zip, ll, Nat.min_self]) (small_le (by omega)) hZ (p2.ne hZ) p2
        (fun H7 o _ p => p.upd (p2.ne hZ).symm (apart_new p2.scr hZ)) (fun H7 o p => srcs2 (.inl (.inl (o _ _ hDp hd))) (src_pl (ha2.tu (p2.tu o)))) (fun _ _ _ _ _ _ _ h => h) (fun i qv v H7 H8 hs o p _ yy Qy k => ?_) (fun H3 ys o3 p3 hd3 hp3 => ?_)
      · obtain ⟨g1, g2⟩ := zip_get hs
        obtain ⟨t, rfl, nt, rfl⟩ := ytup2 yy (get_int g1) (get_int g2)
        have bz := okP_zip okl _ (List.mem_of_getElem? hs)
        have b2 := ws.sm _ (List.mem_of_getElem? g2)
        refine ⟨t, _, rfl, .inl (.inl upd_same), rfl, _, _, rfl, _, _, rfl, rfl, rfl, ?_⟩
        exact ⟨_, rfl, _, rfl, _, rfl, _, rfl, qv.2, qv.1, rfl, rfl, pa, sa, ns, qv.2 - qv.1, rfl, p.new nt, by omega, by omega, fun r H9 c0 c1 o9 p9 => ⟨qv.1, r, rfl, rfl, k _ _ ((same_off (same_new nt)).trans o9) p9 ⟨qv.1 + r, rfl, by omega, by omega⟩⟩⟩
      obtain ⟨high, rfl, okb⟩ := high_of okl hp3
      have hd2 := o3 _ _ hDp hd
      refine ⟨.ref D, rfl, D, _, rfl, .inl ⟨.inl (.inl hd2), fun x nx => ?_⟩⟩
      have sx := same_new (o := .tup (low.map V.int)) nx
      refine ⟨.ref Z, rfl, Z, _, rfl, .inl ⟨.inl (.inl (sx _ _ hd3)), fun y ny => ⟨small_le (by show 2 ≤ _; decide), fun c nc => ?_⟩⟩⟩
      have sy := same_new (o := .tup (high.map V.int)) ny
      have sc := same_new (o := .tup [V.ref x, V.ref y]) nc
      have sAll := sx.trans (sy.trans sc)
      exact q c (low, high) _ okb ⟨x, y, upd_same, sc _ _ (sy _ _ upd_same), sc _ _ upd_same⟩ ((o12.trans o3).trans (same_off sAll)) (p3.same sAll)

/-- a field from its cells in order -/
def fOf (sd cs : List Int) : Pl → Int := fun p => cs.getD (nmF 0 sd p).toNat 0
theorem fOf_map {sd cs : List Int} (h : cs.length = (pls sd).length) : (pls sd).map (fOf sd cs) = cs := by
  apply List.ext_getElem?
  intro i
  by_cases hi : i < (pls sd).length
  · have g := List.getElem?_eq_getElem hi
    obtain ⟨j, e1, e2, e3⟩ := nm_get (mem_pls.mp (List.mem_of_getElem? g))
    have hj : j < (pls sd).length := by rw [pls_len]; exact e2
    have hij : j = i := by
      have nd := pls_nodup sd
      rw [List.getElem?_eq_getElem hj] at e3
      have e4 := Option.some.inj e3
      rcases Nat.lt_trichotomy j i with z | z | z
      · exact absurd e4 (List.pairwise_iff_getElem.mp nd j i hj hi z)
      · exact z
      · exact absurd e4.symm (List.pairwise_iff_getElem.mp nd i j hi hj z)
    subst hij
    rw [List.getElem?_map, g]
    show some (cs.getD (nmF 0 sd _).toNat 0) = _
    rw [e1, Int.toNat_natCast, List.getD_eq_getElem?_getD, List.getElem?_eq_getElem (by omega)]
    rfl
  · rw [List.getElem?_eq_none (by rw [List.length_map]; omega), List.getElem?_eq_none (by omega)]
def Bd (sd : List Int) (f : Pl → Int) : Prop := ∀ p ∈ pls sd, -BIG ≤ f p ∧ f p ≤ BIG
theorem nums_of : ∀ {α : Type} {l : List α} {ys : List V}, Paired (fun (_ : α) y => ∃ v : Int, y = V.int v ∧ -BIG ≤ v ∧ v ≤ BIG) l ys → ∃ cs : List Int, ys = cs.map V.int ∧ cs.length = l.length ∧ ∀ x ∈ cs, -BIG ≤ x ∧ x ≤ BIG
  | _, [], [], .nil => ⟨[], rfl, rfl, fun _ h => by cases h⟩
  | _, s :: g, _ :: ys, .cons ⟨v, e, h1, h2⟩ t => by
    obtain ⟨cs, e2, h3, h4⟩ := nums_of t
    refine ⟨v :: cs, by rw [e, e2]; rfl, by rw [List.length_cons, List.length_cons, h3], fun x hx => ?_⟩
    rcases List.mem_cons.mp hx with rfl | hx
    · exact ⟨h1, h2⟩
    · exact h4 x hx
theorem zip_ents {H : Hp} : ∀ {ps : List Pl} {xs : List V} {cs : List Int}, Reps H (ps.map plc) xs → cs.length = ps.length → ∃ es : List Ent, xs = es.map (fun e => V.ref e.2.1) ∧ cs.map V.int = es.map (fun e => e.2.2) ∧ es.map (·.1) = ps.map plc ∧ ∀ x ∈ es, Rep H x.1 (.ref x.2.1) ∧ x.1.depth ≤ 8
  | [], _, [], h, _ => ⟨[], by rw [show _ = _ from h]; rfl, rfl, rfl, fun _ h => by cases h⟩
  | [], _, _ :: _, _, h => by simp at h
  | _ :: _, _, [], _, h => by simp at h
  | p :: ps, _, c :: cs, ⟨x, r, e, h, hr⟩, hl => by
    obtain ⟨es, h1, h2, h3, h4⟩ := zip_ents hr (by simpa using hl)
    obtain ⟨a, rfl, ha⟩ := rep_pl h
    rw [e]
    refine ⟨(plc p, a, .int c) :: es, by rw [List.map_cons, ← h1], by rw [List.map_cons, List.map_cons, h2], by rw [List.map_cons, List.map_cons, h3], fun q hq => ?_⟩
    rcases List.mem_cons.mp hq with rfl | hq
    · exact ⟨ha.rep, Nat.le_trans (plc_depth p) (by decide)⟩
    · exact h4 q hq
def sp__law_field (P : Program) (w : World) (K : PySem.W.Frag) : Sp := fun vs H Q _ => ∃ (pa s : Addr) (ns : List Int), vs = [.ref pa] ∧ PenAt K H pa s ns ∧
  ∀ (r u d : Addr) (sd : List Int) (f : Pl → Int) H', H' r = some (.tup [.ref u, .ref d]) → FdAt H' u sd f → KD P w H' d sd f → Bd sd f → Off (isA pa) H H' → PenAt K H' pa s ns → Q (.ref r) H'
theorem c__law_field (T : Tx K mg) : Cal P w K mg base 3 "_law_field" (sp__law_field P w K) := by
  have C__law_sides := c__law_sides (P := P) (w := w) (base := base) T
  have C__law_places := c__law_places (P := P) (w := w) (base := base) T
  have C__law_number := c__law_number (P := P) (w := w) (base := base) T
  refine cal_of T.d__law_field sc__law_field (fun vs H Q E h => ?_) (fun f cdv A outer s H vs Q E hr h => ?_)
  · obtain ⟨_, _, _, rfl, _⟩ := h; rfl
  · obtain ⟨pa, sa, ns, rfl, pen, q⟩ := h
    refine ⟨_, (pss_cons (ps_set (i := 1) sc__law_field.nd rfl (Or.inl rfl) (pe_c C__law_sides hr (by decide) (by rfl) (pa_cons (pv 0) pa_nil)))
      (pss_cons (ps_set (i := 2) sc__law_field.nd rfl (Or.inl rfl) (pe_c C__law_places hr (by decide) (by rfl) (pa_cons (pv 1) pa_nil)))
      (pss_cons (ps_set (i := 3) sc__law_field.nd rfl (Or.inl rfl) (pe_callTy call_tupA (by rfl) T.z_tuple (by decide +kernel) (pa_cons (pe_lc (own := [("_law_place", 4)]) (g := (gName 4)) (tt := tYes) rfl sc__law_field.nd (pi_list (pv 2)) (blkOk_by (N := ["_law_pen_here", "_law_sides_here", "_law_places_here", "_law_cells", "_law_place"]) (sc := defScope s__law_field) (by decide +kernel)) (fun _ _ _ _ _ => (pg_name (i := 4) sc__law_field.nd rfl (Or.inl rfl))) (fun _ _ _ _ _ => pts_nil) (fun _ _ _ _ _ => (pe_c C__law_number hr (by decide) (by rfl) (pa_cons (pv 0) pa_nil)))) pa_nil)))
      (pss_one (ps_ret (pe_tup (pa_cons (pe_tup (pa_cons (pv 1) (pa_cons (pv 3) pa_nil))) (pa_cons (pe_dictZip rfl (hu16 hr) (by rfl) T.z_dict (by decide +kernel) (by rfl) T.z_zip (pa_cons (pv 2) (pa_cons (pv 3) pa_nil))) pa_nil)))))))), ?_⟩
    refine ⟨_, rfl, pa, sa, ns, rfl, pen, fun a sd H1 ws ha o1 p1 => ?_⟩
    have hlp : (pls sd).length ≤ 120 := by rw [pls_len]; exact ws.n
    refine ⟨_, rfl, a, sd, rfl, ha, ws, fun L H2 s2 fL lL => ?_⟩
    obtain ⟨ps, hL, rL⟩ := lL
    have hLp := p1.ne fL
    have p2 := p1.same s2
    have ha2 := ha.tu (Same.tu s2)
    have lps : ps.length = (pls sd).length := by rw [rL.length, List.length_map]
    refine ⟨.ref L, rfl, L, rfl, ⟨_, .inl (.inl hL)⟩, fun D hD => ?_⟩
    refine lc_all (pls sd) (fun _ _ y => ∃ v : Int, y = V.int v ∧ -BIG ≤ v ∧ v ≤ BIG) (S := isA pa) (fun H => PenAt K H pa sa ns) (walk_list (xs := ps)) lps.symm (small_le (by omega)) hD (p2.ne hD) p2
      (fun H7 o _ p => p.upd (p2.ne hD).symm (apart_new p2.scr hD)) (fun H7 o p => .inl (.inl (o _ _ hLp hL))) (fun _ _ _ _ _ _ _ h => h) (fun i s v H7 H8 hs o p _ yy Qy k => ?_) (fun H3 ys o3 p3 hd hp => ?_)
    · obtain ⟨rfl, _⟩ := yy
      exact ⟨rfl, _, rfl, pa, sa, ns, rfl, p, fun n H9 c0 c1 o9 p9 => k _ _ o9 p9 ⟨n, rfl, c0, c1⟩⟩
    obtain ⟨cs, rfl, lcs, hcs⟩ := nums_of hp
    have hmap := fOf_map (sd := sd) lcs
    have bd : Bd sd (fOf sd cs) := fun p hp => hcs _ (by have hm : fOf sd cs p ∈ (pls sd).map (fOf sd cs) := List.mem_map_of_mem hp; rw [hmap] at hm; exact hm)
    have hvm : (pls sd).map (fun p => V.int (fOf sd cs p)) = cs.map V.int := by
      have : (pls sd).map (fun p => V.int (fOf sd cs p)) = ((pls sd).map (fOf sd cs)).map V.int := by rw [List.map_map]; rfl
      rw [this, hmap]
    refine ⟨D, _, rfl, .inl ⟨.inl (.inl hd), fun y ny => ?_⟩⟩
    have sy := same_new (o := .tup (cs.map V.int)) ny
    have ha3 := (ha2.tu (p2.tu o3)).tu (Same.tu sy)
    have hL3 := sy _ _ (o3 _ _ hLp hL)
    have rL3 := (rL.mono (p2.tu o3)).mono (Same.tu sy)
    have hy3 : L2.upd H3 y (.tup (cs.map V.int)) y = some (.tup (cs.map V.int)) := upd_same
    have p4 := p3.same sy
    -- ((sides, cells), dict(zip(places, cells)))
    refine ⟨.ref a, rfl, .ref y, rfl, small_le (by show 2 ≤ _; decide), fun u nu => ?_⟩
    have su := same_new (o := .tup [V.ref a, V.ref y]) nu
    obtain ⟨es, e1, e2, e3, e4⟩ := zip_ents (rL3.mono (Same.tu su)) lcs
    have les : es.length = (pls sd).length := by
      have := congrArg List.length e3
      rw [List.length_map, List.length_map] at this; exact this
    refine ⟨.ref L, rfl, .ref y, rfl, (false, L, ps), (true, y, cs.map V.int), es, rfl, .inl (.inl (su _ _ hL3)), .inl (.inl (su _ _ hy3)), e1, e2, ⟨e4, by rw [e3]; exact nodup_map plc_inj (pls_nodup sd), by omega⟩, fun d nd DD => ?_⟩
    have sd' := same_new (o := DnO P w d es) nd
    refine ⟨small_le (by show 2 ≤ _; decide), fun r nr => ?_⟩
    have sr := same_new (o := .tup [V.ref u, V.ref d]) nr
    have sAll := su.trans (sd'.trans sr)
    refine q r u d sd (fOf sd cs) _ upd_same ⟨⟨a, y, (sd'.trans sr) _ _ upd_same, ha3.tu (Same.tu sAll), ?_⟩, ws⟩ ⟨es, Dn.same DD sr, e3, ?_⟩ bd (((o1.trans (same_off s2)).trans o3).trans (same_off (sy.trans sAll))) (p4.same sAll)
    · rw [hvm]
      exact sAll _ _ hy3
    · rw [← e2, hvm]
end Bx

set_option Elab.async false
set_option linter.all false
set_option maxRecDepth 100000
set_option maxHeartbeats 1000000
/-! The length of what repr shows; the hashes of the places. -/
namespace Bx
open PySem PySem.Spec PyProof.Rows L2

/-! ### what is shown -/
mutual
def wt : PyData → Nat
  | .none => 4
  | .int _ => 50
  | .list xs => wtA xs + 3
  | .tuple xs => wtA xs + 3
  | _ => 0
def wtA : List PyData → Nat
  | [] => 0
  | x :: xs => wt x + 2 + wtA xs
end
mutual
def fine : PyData → Bool
  | .none => true
  | .int i => decide (i.natAbs < 10 ^ 40)
  | .list xs => fineA xs
  | .tuple xs => fineA xs
  | _ => false
def fineA : List PyData → Bool
  | [] => true
  | x :: xs => fine x && fineA xs
end
theorem textFrom_le : ∀ (ts : List Str) (k : Nat) (acc : Str), (textFrom k acc ts).length ≤ acc.length + piled ts
  | [], k, acc => by rw [piled_nil]; exact Nat.le_refl _
  | t :: ts, k, acc => by
    rw [piled_cons]
    refine Nat.le_trans (textFrom_le ts (k + 1) _) ?_
    rw [strLen_append, strLen_append]
    have : (((if k > 0 then ", " else "" : String) : Str)).length ≤ 2 := by split <;> decide
    omega
theorem listText_le (ts : List Str) : (listText ts).length ≤ piled ts + 3 := by
  unfold listText
  rw [strLen_append]
  have := textFrom_le ts 0 "["
  have e1 : ((("[" : String) : Str)).length = 1 := rfl
  have e2 : ((("]" : String) : Str)).length = 1 := rfl
  omega
theorem tupleText_le (ts : List Str) : (tupleText ts).length ≤ piled ts + 3 := by
  unfold tupleText
  rw [strLen_append, strLen_append]
  have e1 : ((("(" : String) : Str)).length = 1 := rfl
  have e2 : (((if ts.length == 1 then ",)" else ")" : String) : Str)).length ≤ 2 := by split <;> decide
  have e3 : (Str.join ", " ts).length ≤ piled ts := by
    cases ts with
    | nil => exact Nat.le_refl _
    | cons t ts =>
      have := join_length_add (t :: ts) (by simp)
      omega
  omega
mutual
theorem shown_le : ∀ d : PyData, fine d = true → d.shown.length ≤ wt d
  | .none, _ => by simp only [PyData.shown, wt]; decide
  | .int i, h => by
    simp only [fine, decide_eq_true_eq] at h
    simp only [PyData.shown, wt]
    have := int_text_length_le10 (k := 40) (by decide) h
    show (Str.ofString (toString i)).length ≤ 50
    rw [PySem.ofString_length]; omega
  | .list xs, h => by
    simp only [fine] at h
    simp only [PyData.shown, wt]
    exact Nat.le_trans (listText_le _) (Nat.add_le_add_right (showns_le xs h) 3)
  | .tuple xs, h => by
    simp only [fine] at h
    simp only [PyData.shown, wt]
    exact Nat.le_trans (tupleText_le _) (Nat.add_le_add_right (showns_le xs h) 3)
  | .bool _, h => by simp [fine] at h
  | .str _, h => by simp [fine] at h
  | .dict _, h => by simp [fine] at h
theorem showns_le : ∀ xs : List PyData, fineA xs = true → piled (PyData.shownAll xs) ≤ wtA xs
  | [], _ => Nat.le_refl _
  | x :: xs, h => by
    simp only [fineA, Bool.and_eq_true] at h
    simp only [PyData.shownAll, piled_cons, wtA]
    have h1 := shown_le x h.1
    have h2 := showns_le xs h.2
    omega
end
theorem pow_lt : (10 : Nat) ^ 40 < 2 ^ 1920 := by decide +kernel
mutual
theorem fine_show : ∀ d : PyData, fine d = true → d.showable = true ∧ d.canLay0 = true ∧ PyData.eqv d d = true
  | .none, _ => by simp [PyData.showable, PyData.canLay0, PyData.eqv]
  | .int i, h => by
    simp only [fine, decide_eq_true_eq] at h
    refine ⟨?_, by simp [PyData.canLay0], by simp [PyData.eqv]⟩
    simp only [PyData.showable, decide_eq_true_eq]
    by_cases h0 : i.natAbs = 0
    · rw [h0]; decide
    · exact (Nat.log2_lt h0).mpr (Nat.lt_trans h pow_lt)
  | .list xs, h => by
    simp only [fine] at h
    have := fine_shows xs h
    simpa [PyData.showable, PyData.canLay0, PyData.eqv] using this
  | .tuple xs, h => by
    simp only [fine] at h
    have := fine_shows xs h
    simpa [PyData.showable, PyData.canLay0, PyData.eqv] using this
  | .bool _, h => by simp [fine] at h
  | .str _, h => by simp [fine] at h
  | .dict _, h => by simp [fine] at h
theorem fine_shows : ∀ xs : List PyData, fineA xs = true → PyData.showableAll xs = true ∧ PyData.canLayAll0 xs = true ∧ PyData.eqvAll xs xs = true
  | [], _ => by simp [PyData.showableAll, PyData.canLayAll0, PyData.eqvAll]
  | x :: xs, h => by
    simp only [fineA, Bool.and_eq_true] at h
    have h1 := fine_show x h.1
    have h2 := fine_shows xs h.2
    simp [PyData.showableAll, PyData.canLayAll0, PyData.eqvAll, h1.1, h1.2.1, h1.2.2, h2.1, h2.2.1, h2.2.2]
end
/-- data that may be compared and shown -/
structure Nice (d : PyData) : Prop where
  f : fine d = true
  dp : d.depth ≤ 60
  w : wt d ≤ 1000000
theorem fineA_of {xs : List PyData} (h : ∀ x ∈ xs, fine x = true) : fineA xs = true := by
  induction xs with
  | nil => rfl
  | cons x xs ih =>
    simp only [fineA, Bool.and_eq_true]
    exact ⟨h x List.mem_cons_self, ih fun y hy => h y (List.mem_cons_of_mem _ hy)⟩
theorem wtA_of {xs : List PyData} {B : Nat} (h : ∀ x ∈ xs, wt x ≤ B) : wtA xs ≤ xs.length * (B + 2) := by
  induction xs with
  | nil => exact Nat.zero_le _
  | cons x xs ih =>
    have h1 := h x List.mem_cons_self
    have h2 := ih fun y hy => h y (List.mem_cons_of_mem _ hy)
    simp only [wtA, List.length_cons, Nat.add_mul, Nat.one_mul]
    omega
theorem depthA_of {xs : List PyData} {n : Nat} (h : ∀ x ∈ xs, x.depth ≤ n) : PyData.depthAll xs ≤ n := by
  induction xs with
  | nil => exact Nat.zero_le _
  | cons x xs ih =>
    simp only [PyData.depthAll]
    exact Nat.max_le.mpr ⟨h x List.mem_cons_self, ih fun y hy => h y (List.mem_cons_of_mem _ hy)⟩
theorem datas_map (ks : List NestedKey) : NestedKey.datas ks = ks.map NestedKey.data := by
  induction ks with
  | nil => rfl
  | cons k ks ih => simp only [NestedKey.datas, List.map_cons, ih]
/-- small ints -/
def Sm (x : Int) : Prop := x.natAbs < 10 ^ 40
theorem fine_num {x : Int} (h : Sm x) : fine (NestedKey.num x).data = true := by
  simp only [NestedKey.data, fine]
  exact decide_eq_true h
theorem plc_data {p : Pl} (h : ∀ x ∈ p, Sm x) (hl : p.length ≤ 3) : fine (plc p).data = true ∧ wt (plc p).data ≤ 200 ∧ (plc p).data.depth ≤ 1 := by
  have e : (plc p).data = .tuple (p.map fun x => (NestedKey.num x).data) := by simp only [NestedKey.data, datas_map, List.map_map]; rfl
  refine ⟨?_, ?_, ?_⟩
  · rw [e]
    simp only [fine]
    refine fineA_of fun y hy => ?_
    obtain ⟨x, hx, rfl⟩ := List.mem_map.mp hy
    exact fine_num (h x hx)
  · rw [e]
    simp only [wt]
    have := wtA_of (xs := p.map fun x => (NestedKey.num x).data) (B := 50) fun y hy => by
      obtain ⟨x, hx, rfl⟩ := List.mem_map.mp hy
      simp [NestedKey.data, wt]
    rw [List.length_map] at this
    omega
  · rw [depth_data]; exact plc_depth p
theorem trk_data {t : Tri} (h : Sm t.1 ∧ Sm t.2.1 ∧ Sm t.2.2) : fine (trk t).data = true ∧ wt (trk t).data ≤ 200 ∧ (trk t).data.depth ≤ 1 := by
  have := plc_data (p := [t.1, t.2.1, t.2.2]) (fun x hx => by
    simp only [List.mem_cons, List.not_mem_nil, or_false] at hx
    rcases hx with rfl | rfl | rfl
    · exact h.1
    · exact h.2.1
    · exact h.2.2) (by show 3 ≤ 3; decide)
  exact this
theorem pair_data {a b : NestedKey} {A B n : Nat} (ha : fine a.data = true ∧ wt a.data ≤ A ∧ a.data.depth ≤ n) (hb : fine b.data = true ∧ wt b.data ≤ B ∧ b.data.depth ≤ n) : fine (NestedKey.tup [a, b]).data = true ∧ wt (NestedKey.tup [a, b]).data ≤ A + B + 7 ∧ (NestedKey.tup [a, b]).data.depth ≤ n + 1 := by
  have e : (NestedKey.tup [a, b]).data = .tuple [a.data, b.data] := by simp only [NestedKey.data, NestedKey.datas]
  rw [e]
  refine ⟨by simp [fine, fineA, ha.1, hb.1], by simp only [wt, wtA]; omega, ?_⟩
  simp only [PyData.depth, PyData.depthAll]
  omega
theorem bxk_data {sd : List Int} {b : Box} (ws : WS sd) (ok : OkB sd b.1 b.2) : fine (bxk b).data = true ∧ wt (bxk b).data ≤ 410 ∧ (bxk b).data.depth ≤ 2 := by
  have hs : ∀ {p : Pl}, OkP sd p → ∀ x ∈ p, Sm x := by
    intro p hp x hx
    have go : ∀ {sd : List Int} {p : Pl}, OkP sd p → (∀ x ∈ sd, x ≤ 120) → ∀ x ∈ p, 0 ≤ x ∧ x < 1000 := by
      intro sd
      induction sd with
      | nil => intro p hp _ x hx; cases p with
        | nil => cases hx
        | cons _ _ => exact hp.elim
      | cons s sd ih => intro p hp hs x hx; cases p with
        | nil => cases hx
        | cons y p =>
          rcases List.mem_cons.mp hx with rfl | hx
          · have := hs s List.mem_cons_self; have := hp.1; omega
          · exact ih hp.2 (fun x hx => hs x (List.mem_cons_of_mem _ hx)) x hx
    have := go hp ws.sm x hx
    have e : (1000 : Nat) < 10 ^ 40 := by decide
    unfold Sm
    omega
  have h1 := plc_data (hs ok.low) (by rw [ok.len.1]; exact ws.len)
  have h2 := plc_data (hs ok.high) (by rw [ok.len.2]; exact ws.len)
  have := pair_data h1 h2
  exact ⟨this.1, Nat.le_trans this.2.1 (by decide), this.2.2⟩
theorem TB_small {sd : List Int} {f : Pl → Int} {b : Box} (ws : WS sd) (bd : Bd sd f) (ok : OkB sd b.1 b.2) : Sm (TB f b).1 ∧ Sm (TB f b).2.1 ∧ Sm (TB f b).2.2 := by
  have n := cells_ne ok
  have l : (cells b).length ≤ 120 := Nat.le_trans (cells_le ok) ws.n
  have k := tri_bound (l := (cells b).map f) (B := BIG) (by simpa using n) (fun x hx => by
    obtain ⟨p, hp, rfl⟩ := List.mem_map.mp hx
    exact bd p (mem_pls.mpr ((mem_cells ok).mp hp).1))
  rw [List.length_map] at k
  have e1 : ((cells b).length : Int) * BIG ≤ 120 * BIG := Int.mul_le_mul_of_nonneg_right (by omega) (by unfold BIG; decide)
  have e2 : (120 : Int) * BIG < 10 ^ 40 := by decide
  have e3 : BIG < 10 ^ 40 := by decide
  have e4 : ((10 ^ 40 : Nat) : Int) = 10 ^ 40 := by decide
  have big : ∀ x : Int, -(120 * BIG) ≤ x → x ≤ 120 * BIG → Sm x := fun x h1 h2 => by
    unfold Sm
    have : ((x.natAbs : Nat) : Int) < ((10 ^ 40 : Nat) : Int) := by rw [e4]; omega
    exact Int.ofNat_lt.mp this
  have b0 : (0 : Int) ≤ BIG := by unfold BIG; decide
  unfold TB
  exact ⟨big _ (by omega) (by omega), big _ (by omega) (by omega), big _ (by omega) (by omega)⟩
theorem tab_data {sd : List Int} {f : Pl → Int} (ws : WS sd) (bd : Bd sd f) {b : Box} (hb : b ∈ halfB sd) : fine (tabk (TB f) b).data = true ∧ wt (tabk (TB f) b).data ≤ 700 ∧ (tabk (TB f) b).data.depth ≤ 3 := by
  have ok := (mem_halfB.mp hb).ok ws.ps
  have h1 := bxk_data ws ok
  have h2 := trk_data (TB_small ws bd ok)
  have := pair_data (n := 2) h1 ⟨h2.1, h2.2.1, by omega⟩
  exact ⟨this.1, Nat.le_trans this.2.1 (by decide), this.2.2⟩
theorem list_nice {ks : List NestedKey} {B n : Nat} (h : ∀ k ∈ ks, fine k.data = true ∧ wt k.data ≤ B ∧ k.data.depth ≤ n) : fine (PyData.list (NestedKey.datas ks)) = true ∧ wt (PyData.list (NestedKey.datas ks)) ≤ ks.length * (B + 2) + 3 ∧ (PyData.list (NestedKey.datas ks)).depth ≤ n + 1 := by
  rw [datas_map]
  refine ⟨?_, ?_, ?_⟩
  · simp only [fine]
    refine fineA_of fun y hy => ?_
    obtain ⟨k, hk, rfl⟩ := List.mem_map.mp hy
    exact (h k hk).1
  · simp only [wt]
    have := wtA_of (xs := ks.map NestedKey.data) (B := B) fun y hy => by
      obtain ⟨k, hk, rfl⟩ := List.mem_map.mp hy
      exact (h k hk).2.1
    rw [List.length_map] at this
    omega
  · simp only [PyData.depth]
    have := depthA_of (xs := ks.map NestedKey.data) (n := n) fun y hy => by
      obtain ⟨k, hk, rfl⟩ := List.mem_map.mp hy
      exact (h k hk).2.2
    omega
theorem table_nice {sd : List Int} {f : Pl → Int} (ws : WS sd) (bd : Bd sd f) : Nice (.list (NestedKey.datas ((halfB sd).map (tabk (TB f))))) := by
  have := list_nice (ks := (halfB sd).map (tabk (TB f))) (B := 700) (n := 3) fun k hk => by
    obtain ⟨b, hb, rfl⟩ := List.mem_map.mp hk
    exact tab_data ws bd hb
  have hl := halfB_len ws
  rw [List.length_map] at this
  exact ⟨this.1, by omega, by omega⟩
theorem boxes_nice {sd : List Int} {p : Pl} (ws : WS sd) : Nice (.list (NestedKey.datas (((halfB sd).filter fun b => inB b.1 b.2 p).map bxk))) := by
  have := list_nice (ks := ((halfB sd).filter fun b => inB b.1 b.2 p).map bxk) (B := 410) (n := 2) fun k hk => by
    obtain ⟨b, hb, rfl⟩ := List.mem_map.mp hk
    exact bxk_data ws ((mem_halfB.mp (List.mem_filter.mp hb).1).ok ws.ps)
  have hl := Nat.le_trans (List.length_filter_le (fun b : Box => inB b.1 b.2 p) (halfB sd)) (halfB_len ws)
  rw [List.length_map] at this
  exact ⟨this.1, by omega, by omega⟩
theorem pair_nice {a b : PyData} (ha : Nice a) (hb : Nice b) (da : a.depth ≤ 50) (db : b.depth ≤ 50) (wa : wt a ≤ 400000) (wb : wt b ≤ 400000) : Nice (.tuple [a, b]) :=
  ⟨by simp [fine, fineA, ha.f, hb.f], by simp only [PyData.depth, PyData.depthAll]; omega, by simp only [wt, wtA]; omega⟩
theorem told_nice {sd : List Int} {f : Pl → Int} {p : Pl} (ws : WS sd) (bd : Bd sd f) : Nice (.tuple [.list (NestedKey.datas ((halfB sd).map (tabk (TB f)))), .list (NestedKey.datas (((halfB sd).filter fun b => inB b.1 b.2 p).map bxk))]) := by
  have t1 := list_nice (ks := (halfB sd).map (tabk (TB f))) (B := 700) (n := 3) fun k hk => by
    obtain ⟨b, hb, rfl⟩ := List.mem_map.mp hk
    exact tab_data ws bd hb
  have t2 := list_nice (ks := ((halfB sd).filter fun b => inB b.1 b.2 p).map bxk) (B := 410) (n := 2) fun k hk => by
    obtain ⟨b, hb, rfl⟩ := List.mem_map.mp hk
    exact bxk_data ws ((mem_halfB.mp (List.mem_filter.mp hb).1).ok ws.ps)
  have hl := halfB_len ws
  have hl2 := Nat.le_trans (List.length_filter_le (fun b : Box => inB b.1 b.2 p) (halfB sd)) hl
  rw [List.length_map] at t1 t2
  exact pair_nice (table_nice ws bd) (boxes_nice ws) (by omega) (by omega) (by omega) (by omega)
theorem trk_nice {t : Tri} (h : Sm t.1 ∧ Sm t.2.1 ∧ Sm t.2.2) : Nice (trk t).data := by
  have := trk_data h
  exact ⟨this.1, by omega, by omega⟩

/-! ### the hashes of the places -/
def hI (p : Pl) : Int := reduceHash (Builtin.Tuple.tupleHashOf (p.map hashInt))
theorem hash_plc (w : World) (p : Pl) : (plc p).hash w = hI p := by
  have e : ∀ p : Pl, NestedKey.hashes w (p.map .num) = p.map hashInt := by
    intro p
    induction p with
    | nil => rfl
    | cons x p ih => simp only [List.map_cons, NestedKey.hashes, NestedKey.hash, ih]
  simp only [NestedKey.hash, e, hI]
theorem grid_hash : ∀ g ∈ grids, ((pls g).map hI).Nodup := by decide +kernel
theorem okP_mono : ∀ {sd g : List Int} {p : Pl}, LeA sd g → OkP sd p → OkP g p
  | [], [], [], _, _ => trivial
  | [], [], _ :: _, _, h => h.elim
  | [], _ :: _, _, h, _ => h.elim
  | _ :: _, [], _, h, _ => h.elim
  | _ :: _, _ :: _, [], _, h => h.elim
  | _ :: _, _ :: _, _ :: _, h1, h2 => ⟨⟨h2.1.1, Int.lt_of_lt_of_le h2.1.2 h1.1.2⟩, okP_mono h1.2 h2.2⟩
theorem inj_of_nodup {α β : Type} {f : α → β} : ∀ {l : List α}, (l.map f).Nodup → ∀ a ∈ l, ∀ b ∈ l, f a = f b → a = b
  | [], _, a, ha, _, _, _ => by cases ha
  | x :: l, h, a, ha, b, hb, e => by
    rw [List.map_cons, List.nodup_cons] at h
    rcases List.mem_cons.mp ha with e1 | ha'
    · rcases List.mem_cons.mp hb with e2 | hb'
      · rw [e1, e2]
      · rw [e1] at e
        exact absurd (e ▸ List.mem_map_of_mem (f := f) hb') h.1
    · rcases List.mem_cons.mp hb with e2 | hb'
      · rw [e2] at e
        exact absurd (e ▸ List.mem_map_of_mem (f := f) ha') h.1
      · exact inj_of_nodup h.2 a ha' b hb' e
theorem hash_nodup {sd : List Int} (ws : WS sd) (w : World) : ((pls sd).map fun p => (plc p).hash w).Nodup := by
  obtain ⟨g, hg, h⟩ := ws
  have inj := inj_of_nodup (grid_hash g hg)
  refine List.pairwise_map.mpr ((pls_nodup sd).imp_of_mem fun {a b} ha hb n e => n ?_)
  rw [hash_plc, hash_plc] at e
  exact inj a (mem_pls.mpr (okP_mono h (mem_pls.mp ha))) b (mem_pls.mpr (okP_mono h (mem_pls.mp hb))) e
end Bx

set_option Elab.async false
set_option linter.all false
set_option maxRecDepth 100000
set_option maxHeartbeats 1000000
/-! _law_same; the dict of the cells, changed. -/
namespace Bx
open PySem PySem.Spec PyProof.Rows L2
variable {P : Program} {w : World} {K : PySem.W.Frag} {mg : Str → Option Value} {base : Heap}
def sp__law_same (K : PySem.W.Frag) : Sp := fun vs H Q _ => ∃ (x y : Addr) (d : PyData), vs = [.ref x, .ref y] ∧ Dp K H (.ref x) d ∧ Dp K H (.ref y) d ∧ Nice d ∧ Q (.bl true) H
theorem c__law_same (T : Tx K mg) : CalG P w K mg base 1 "_law_same" (sp__law_same K) := by
  refine calG_of T.d__law_same sc__law_same (fun vs H Q E h => ?_) (fun f cdv A outer s H vs Q E hg hr h => ?_)
  · obtain ⟨_, _, _, rfl, _⟩ := h; rfl
  · obtain ⟨x, y, d, rfl, hx, hy, nd, q⟩ := h
    obtain ⟨f1, f2, f3⟩ := fine_show d nd.f
    have hsh : SeqAt.shaped d = true := by
      unfold SeqAt.shaped
      rw [f2, Bool.true_and]
      exact decide_eq_true (Nat.le_trans nd.dp (by decide))
    have hd := PyData.hasDict_of_canLay d f2
    have hz : d.shown.length ≤ sizeLine := small_le (Nat.le_trans (shown_le d nd.f) nd.w)
    refine ⟨_, (pss_one (ps_ret (pe_and (pe_cmpR (op_eqD (hu64 hr) : OpR _ (compareOp .Eq) (rEqD K)) (pv 0) (pv 1) (nomark _)) (pe_one (pe_cmpR op_eq (pe_callB (call_repr hg (hu64 hr)) (by rfl) T.z_repr (by decide +kernel) (pa_cons (pv 0) pa_nil)) (pe_callB (call_repr hg (hu64 hr)) (by rfl) T.z_repr (by decide +kernel) (pa_cons (pv 1) pa_nil)) (nomark _)))))), ?_⟩
    refine ⟨.ref x, rfl, .ref y, rfl, d, d, hx, hy, hsh, hsh, true, congrArg V.bl f3, iteT ?_⟩
    refine ⟨.ref x, rfl, x, d, rfl, hx, f1, hd, nd.dp, hz, .ref y, rfl, y, d, rfl, hy, f1, hd, nd.dp, hz, rfl, ?_⟩
    exact by_eq (bl_t rfl) q

theorem put_vals {p : Pl} {n : Int} {f : Pl → Int} : ∀ {es : List Ent} {ps : List Pl}, es.map (·.1) = ps.map plc → es.map (fun x => x.2.2) = ps.map (fun q => V.int (f q)) →
    (es.map fun x => if x.1 = plc p then (x.1, x.2.1, V.int n) else x).map (fun x => x.2.2) = ps.map fun q => V.int (chg f p n q)
  | [], [], _, _ => rfl
  | [], _ :: _, h, _ => by simp at h
  | _ :: _, [], h, _ => by simp at h
  | e :: es, q :: ps, h1, h2 => by
    simp only [List.map_cons, List.cons.injEq] at h1 h2 ⊢
    refine ⟨?_, put_vals h1.2 h2.2⟩
    unfold chg
    by_cases hq : q = p
    · rw [if_pos hq, if_pos (by rw [h1.1, hq])]
    · rw [if_neg hq, if_neg (fun z => hq (plc_inj (h1.1.symm.trans z)))]
      exact h2.1
/-- known[place] = number, the reading -/
theorem KD.put {H : Hp} {d e : Addr} {sd : List Int} {f : Pl → Int} {p : Pl} {n : Int} {Q : Hp → Prop} (kd : KD P w H d sd f) (he : PlAt H e p) (ok : OkP sd p) (ws : WS sd)
    (k : ∀ H', Off (isA d) H H' → Tu H H' → KD P w H' d sd (chg f p n) → Q H') : rPutN P w (.ref d) (.ref e) (.int n) H Q := by
  obtain ⟨es, D, ek, ev⟩ := kd
  have hle : es.length = (pls sd).length := by
    have := congrArg List.length ek
    rw [List.length_map, List.length_map] at this; exact this
  have hlp : (pls sd).length ≤ 120 := by rw [pls_len]; exact ws.n
  have hk : plc p ∈ es.map (·.1) := by rw [ek]; exact List.mem_map_of_mem (mem_pls.mpr ok)
  refine ⟨d, es, plc p, e, rfl, rfl, D, he.rep, Nat.le_trans (plc_depth p) (by decide), by omega, fun D' => ?_⟩
  refine k _ (fun x o hx e => by rw [upd_ne hx]; exact e) (Tu.ext D.here) ⟨_, D', ?_, ?_⟩
  · rw [putE_keys_eq hk]; exact ek
  · obtain ⟨u, hu⟩ := valV_there hk
    unfold putE
    rw [if_pos (by rw [hu]; rfl)]
    exact put_vals ek ev
theorem valV_get {H : Hp} {f : Pl → Int} : ∀ {es : List Ent} {ps : List Pl}, es.map (·.1) = ps.map plc → es.map (fun x => x.2.2) = ps.map (fun q => V.int (f q)) → ∀ p ∈ ps, valV (kv es) (plc p) = some (.int (f p))
  | [], [], _, _, p, hp => by cases hp
  | [], _ :: _, h, _, _, _ => by simp at h
  | _ :: _, [], h, _, _, _ => by simp at h
  | e :: es, q :: ps, h1, h2, p, hp => by
    simp only [List.map_cons, List.cons.injEq] at h1 h2
    by_cases hq : q = p
    · subst hq
      rw [show valV (kv (e :: es)) (plc q) = some e.2.2 from valV_pos (p := (e.1, e.2.2)) h1.1, h2.1]
    · rw [show valV (kv (e :: es)) (plc p) = valV (kv es) (plc p) from valV_neg (p := (e.1, e.2.2)) fun z => hq (plc_inj (h1.1.symm.trans z))]
      rcases List.mem_cons.mp hp with rfl | hp
      · exact absurd rfl hq
      · exact valV_get (H := H) h1.2 h2.2 p hp
/-- known[place], the reading -/
theorem KD.ix {H : Hp} {d e : Addr} {sd : List Int} {f : Pl → Int} {p : Pl} {Q : VK} (kd : KD P w H d sd f) (he : PlAt H e p) (ok : OkP sd p) (k : Q (.int (f p)) H) : rIxN P w (.ref d) (.ref e) H Q := by
  obtain ⟨es, D, ek, ev⟩ := kd
  exact ⟨d, es, plc p, e, .int (f p), rfl, rfl, D, he.rep, Nat.le_trans (plc_depth p) (by decide), valV_get (H := H) ek ev p (mem_pls.mpr ok), k⟩
theorem KD.off {S : Addr → Prop} {H H' : Hp} {d : Addr} {sd : List Int} {f : Pl → Int} (kd : KD P w H d sd f) (o : Off S H H') (t : Tu H H') (n : ¬ S d) : KD P w H' d sd f := by
  obtain ⟨es, D, ek, ev⟩ := kd
  exact ⟨es, D.mono t ((o d _ n D.here).trans D.here.symm), ek, ev⟩
theorem KD.at {H : Hp} {d : Addr} {sd : List Int} {f : Pl → Int} (kd : KD P w H d sd f) : ∃ φ, H d = some (.ext φ) := by
  obtain ⟨es, D, _⟩ := kd
  exact ⟨_, D.here⟩
theorem Ls.off {S : Addr → Prop} {H H' : Hp} {a : Addr} {ks : List NestedKey} (l : Ls H a ks) (o : Off S H H') (t : Tu H H') (n : ¬ S a) : Ls H' a ks := by
  obtain ⟨xs, h, r⟩ := l
  exact ⟨xs, o a _ n h, r.mono t⟩
theorem PenAt.ned {H : Hp} {pa s d : Addr} {ns : List Int} {o : HO} (p : PenAt K H pa s ns) (h : H d = some o) (n : ∀ xs, o ≠ .lst xs) : d ≠ pa := by
  obtain ⟨_, _, e, _⟩ := p.pen
  exact ne_of h e (n _)
theorem Ls.dp {H : Hp} {a : Addr} {ks : List NestedKey} (l : Ls H a ks) : Dp K H (.ref a) (.list (NestedKey.datas ks)) := by
  obtain ⟨xs, h, r⟩ := l
  exact .lst (.inl (.inl h)) r.dp
theorem agr_eq (sd : List Int) (f f' : Pl → Int) : agr sd f f' = decide ((pls sd).map f = (pls sd).map f') := by
  unfold agr
  rw [Bool.eq_iff_iff, List.all_eq_true, decide_eq_true_iff]
  constructor
  · intro h
    exact List.map_congr_left fun p hp => (of_decide_eq_true (h p hp)).symm
  · intro h p hp
    rw [List.map_inj_left] at h
    exact decide_eq_true (h p hp).symm
theorem agr_self (sd : List Int) (f : Pl → Int) : agr sd f f = true := by rw [agr_eq]; exact decide_eq_true rfl
theorem Bd.chg {sd : List Int} {f : Pl → Int} {p : Pl} {n : Int} (b : Bd sd f) (h1 : -BIG ≤ n) (h2 : n ≤ BIG) : Bd sd (Bx.chg f p n) := fun q hq => by
  unfold Bx.chg
  split
  · exact ⟨h1, h2⟩
  · exact b q hq
end Bx

set_option Elab.async false
set_option linter.all false
set_option maxRecDepth 100000
set_option maxHeartbeats 4000000
/-! _law_step. -/
namespace Bx
open PySem PySem.Spec PyProof.Rows L2
variable {P : Program} {w : World} {K : PySem.W.Frag} {mg : Str → Option Value} {base : Heap}
theorem ints_of {es : List Ent} {sd : List Int} {f : Pl → Int} (h : es.map (fun x => x.2.2) = (pls sd).map fun p => V.int (f p)) : IntsV es ((pls sd).map f) := by
  unfold IntsV
  rw [h, List.map_map]; rfl
theorem hash_es {es : List Ent} {sd : List Int} (ws : WS sd) (h : es.map (·.1) = (pls sd).map plc) : (es.map fun x => x.1.hash w).Nodup := by
  have e : (es.map fun x => x.1.hash w) = (es.map (·.1)).map fun k => k.hash w := by rw [List.map_map]; rfl
  rw [e, h, List.map_map]
  exact hash_nodup ws w
theorem reps_keys {H : Hp} {sd : List Int} : ∀ {es : List Ent} {ps : List Pl}, (∀ x ∈ es, Rep H x.1 (.ref x.2.1) ∧ x.1.depth ≤ 8) → es.map (·.1) = ps.map plc → Reps H (ps.map plc) (es.map fun x => V.ref x.2.1)
  | [], [], _, _ => .nil
  | [], _ :: _, _, h => by simp at h
  | _ :: _, [], _, h => by simp at h
  | e :: es, p :: ps, hk, h => by
    simp only [List.map_cons, List.cons.injEq] at h
    have h1 := (hk e List.mem_cons_self).1
    rw [h.1] at h1
    exact .cons h1 (reps_keys (sd := sd) (fun x hx => hk x (List.mem_cons_of_mem _ hx)) h.2)
theorem pls_sorted {sd : List Int} {ps' : List Pl} (hp : ps'.Perm (pls sd)) (hs : ps'.Pairwise fun x y => lexLt y x = false) : ps' = pls sd :=
  sorted_uniq (key := id) (fun _ _ h => h) hp hs ((pls_lt sd).imp fun h => lexLt_asym _ _ h)
def sp__law_step (P : Program) (w : World) (K : PySem.W.Frag) : Sp := fun vs H Q _ => ∃ (pa s a t d e : Addr) (ns sd : List Int) (f : Pl → Int) (p : Pl) (n : Int), vs = [.ref pa, .ref a, .ref t, .ref d, .ref e, .int n] ∧
  PenAt K H pa s ns ∧ PlAt H a sd ∧ Ls H t ((halfB sd).map (tabk (TB f))) ∧ t ≠ pa ∧ KD P w H d sd f ∧ PlAt H e p ∧ OkP sd p ∧ WS sd ∧ Bd sd f ∧ -BIG ≤ n ∧ n ≤ BIG ∧
  ∀ r H', Off (isA pa) H H' → PenAt K H' pa s ns → H r = none → Ls H' r ((halfB sd).map (tabk (TB (chg f p n)))) → Q (.ref r) H'
theorem c__law_step (T : Tx K mg) : CalG P w K mg base 5 "_law_step" (sp__law_step P w K) := by
  have C__law_same := c__law_same (P := P) (w := w) (base := base) T
  have C_changed_halves := c_changed_halves (P := P) (w := w) (base := base) T
  have C__law_due := c__law_due (P := P) (w := w) (base := base) T
  have C__law_has := c__law_has (P := P) (w := w) (base := base) T
  have C__law_most := c__law_most (P := P) (w := w) (base := base) T
  have C_holds_halves := c_holds_halves (P := P) (w := w) (base := base) T
  have C__law_box := c__law_box (P := P) (w := w) (base := base) T
  have C_by_halves := c_by_halves (P := P) (w := w) (base := base) T
  have C__law_answer := c__law_answer (P := P) (w := w) (base := base) T
  refine calG_of T.d__law_step sc__law_step (fun vs H Q E h => ?_) (fun f cdv A outer s H vs Q E hg hr h => ?_)
  · obtain ⟨_, _, _, _, _, _, _, _, _, _, _, rfl, _⟩ := h; rfl
  · obtain ⟨pa, sa, a, t, d, e, ns, sd, g, p, n, rfl, pen, ha, ht, htp, kd, he, okp, ws, bd, n1, n2, q⟩ := h
    have hlen := halfB_len ws
    have nd := halfB_nodup ws.ps
    have bd' := bd.chg (p := p) n1 n2
    have hl3 := ws.len
    generalize hg' : chg g p n = g' at bd' q
    refine ⟨_, (pss_cons (ps_set (i := 6) sc__law_step.nd rfl (Or.inl rfl) (pe_callTy call_list_of (by rfl) T.z_list (by decide +kernel) (pa_cons (pv 2) pa_nil)))
      (pss_cons (ps_set (i := 7) sc__law_step.nd rfl (Or.inl rfl) (pe_c C_changed_halves hr (by decide) (by rfl) (pa_cons (pv 1) (pa_cons (pv 6) (pa_cons (pv 4) (pa_cons (pv 5) pa_nil))))))
      (pss_cons (ps_set (i := 8) sc__law_step.nd rfl (Or.inl rfl) (pe_callTy (call_dictD (hu16 hr)) (by rfl) T.z_dict (by decide +kernel) (pa_cons (pv 3) pa_nil)))
      (pss_cons (ps_asg (pv 5) (pg_sub (pv 8) (pv 4) (set_dn (hu16 hr) : PSet _ (rPutN P w)) (fun _ => rfl)))
      (pss_cons (ps_set (i := 9) sc__law_step.nd rfl (Or.inl rfl) (pe_c C__law_due hr (by decide) (by rfl) (pa_cons (pv 1) (pa_cons (pv 8) pa_nil))))
      (pss_cons (ps_setLc (i := 10) (own := [("_law_box_here", 14), ("_law_entry", 15)]) (g := (gTup K 2 (gCons (gName 14) (gCons (gName 15) gNil)))) rfl sc__law_step.nd rfl rfl (sw_true rfl rfl rfl (by decide +kernel)) (pi_list (pv 9)) (blkOk_by (N := ["_law_pen_here", "_law_sides_here", "_law_table", "_law_known", "_law_place", "_law_number_here", "_law_handed", "_law_told", "_law_later", "_law_due_here", "_law_boxes", "_law_later_ones", "_law_fields", "_law_ahead", "_law_box_here", "_law_entry", "_law_some", "_law_spot"]) (sc := defScope s__law_step) (by decide +kernel)) (fun _ _ _ _ _ => (pg_tup rfl (pgs_cons (pg_name (i := 14) sc__law_step.nd rfl (Or.inl rfl)) (pgs_cons (pg_name (i := 15) sc__law_step.nd rfl (Or.inl rfl)) pgs_nil)))) (fun _ _ _ _ _ => (pts_one (pt_val (pe_c C__law_has hr (by decide) (by rfl) (pa_cons (pv 14) (pa_cons (pv 4) pa_nil)))))) (fun _ _ _ _ _ => (pv 14)))
      (pss_cons (ps_if (PW.pt (pw_or (pt_not (pt_val (pe_cg C__law_same hg hr (by decide) (by rfl) (pa_cons (pv 7) (pa_cons (pe_tup (pa_cons (pv 9) (pa_cons (pv 10) pa_nil))) pa_nil))))) (pw_or (pt_not (pt_val (pe_cg C__law_same hg hr (by decide) (by rfl) (pa_cons (pv 6) (pa_cons (pv 2) pa_nil))))) (pw_or1 (pt_cmpR op_gt (pe_callB call_len_seq (by rfl) T.z_len PySem.boot_len (pa_cons (pv 10) pa_nil)) (pe_c C__law_most hr (by decide) (by rfl) (pa_cons (pv 1) pa_nil)) (nomark _)))))) (pss_one (ps_ret pe_non)) pss_nil)
      (pss_cons (ps_set (i := 11) sc__law_step.nd rfl (Or.inr rfl) (pe_callTy (call_dictL rfl (hu16 hr)) (by rfl) T.z_dict (by decide +kernel) (pa_cons (pv 9) pa_nil)))
      (pss_cons (ps_if (pt_cmpR (op_neK (hu64 hr) : OpR _ (compareOp .NotEq) (rNeK K)) (pe_lc (own := [("_law_box_here", 14), ("_law_entry", 15)]) (g := (gTup K 2 (gCons (gName 14) (gCons (gName 15) gNil)))) rfl sc__law_step.nd (pi_list (pv 2)) (blkOk_by (N := ["_law_pen_here", "_law_sides_here", "_law_table", "_law_known", "_law_place", "_law_number_here", "_law_handed", "_law_told", "_law_later", "_law_due_here", "_law_boxes", "_law_later_ones", "_law_fields", "_law_ahead", "_law_box_here", "_law_entry", "_law_some", "_law_spot"]) (sc := defScope s__law_step) (by decide +kernel)) (fun _ _ _ _ _ => (pg_tup rfl (pgs_cons (pg_name (i := 14) sc__law_step.nd rfl (Or.inl rfl)) (pgs_cons (pg_name (i := 15) sc__law_step.nd rfl (Or.inl rfl)) pgs_nil)))) (fun _ _ _ _ _ => (pts_one (PW.pt (pw_and (pt_cmpR (op_neK (hu64 hr) : OpR _ (compareOp .NotEq) (rNeK K)) (pe_ix (ix_dn (hu16 hr) : IxR _ (rIxN P w)) (pv 11) (pv 14) (fun _ _ => rfl)) (pv 15) (nomark _)) (pw_and1 (pt_not (pt_val (pe_c C__law_has hr (by decide) (by rfl) (pa_cons (pv 14) (pa_cons (pv 4) pa_nil)))))))))) (fun _ _ _ _ _ => (pv 14))) (pe_lst pa_nil) (nomark _)) (pss_one (ps_ret pe_non)) pss_nil)
      (pss_cons (ps_setLc (i := 12) (own := [("_law_some", 16)]) (g := (gName 16)) (tt := tYes) (te := tTup (tCons (tVar 1) (tCons (tCB (rTupOf K) (tCons (tLc (iList K (tCB (rSortPl K) (tCons (tCB (rListN P w) (tCons (tVar 16) tNil)) tNil))) (gName 17) tYes (tOp (rIxN P w) (tVar 16) (tVar 17)) [17]) tNil)) tNil))) rfl sc__law_step.nd rfl rfl (sw_true rfl rfl rfl (by decide +kernel)) (pi_tup (pe_tup (pa_cons (pv 3) (pa_cons (pv 8) pa_nil)))) (blkOk_by (N := ["_law_pen_here", "_law_sides_here", "_law_table", "_law_known", "_law_place", "_law_number_here", "_law_handed", "_law_told", "_law_later", "_law_due_here", "_law_boxes", "_law_later_ones", "_law_fields", "_law_ahead", "_law_box_here", "_law_entry", "_law_some", "_law_spot"]) (sc := defScope s__law_step) (by decide +kernel)) (fun _ _ _ _ _ => (pg_name (i := 16) sc__law_step.nd rfl (Or.inr rfl))) (fun _ _ _ _ _ => pts_nil) (fun _ _ _ _ _ => (pe_tup (pa_cons (pv 1) (pa_cons (pe_callTy call_tupA (by rfl) T.z_tuple (by decide +kernel) (pa_cons (pe_lc (own := [("_law_spot", 17)]) (g := (gName 17)) (tt := tYes) rfl sc__law_step.nd (pi_list (pe_callB cr_sortPl (by rfl) T.z_sorted (by decide +kernel) (pa_cons (pe_callTy (call_listN rfl) (by rfl) T.z_list (by decide +kernel) (pa_cons (pv 16) pa_nil)) pa_nil))) (blkOk_by (N := ["_law_pen_here", "_law_sides_here", "_law_table", "_law_known", "_law_place", "_law_number_here", "_law_handed", "_law_told", "_law_later", "_law_due_here", "_law_boxes", "_law_later_ones", "_law_fields", "_law_ahead", "_law_box_here", "_law_entry", "_law_some", "_law_spot"]) (sc := (relS sc_inner (defScope s__law_step))) (by decide +kernel)) (fun _ _ _ _ _ => (pg_name (i := 17) sc__law_step.nd rfl (Or.inl rfl))) (fun _ _ _ _ _ => pts_nil) (fun _ _ _ _ _ => (pe_ix (ix_dn (hu16 hr) : IxR _ (rIxN P w)) (pv 16) (pv 17) (fun _ _ => rfl)))) pa_nil)) pa_nil)))))
      (pss_cons (ps_if (pt_cmpR op_isntB (pe_c C_holds_halves hr (by decide) (by rfl) (pa_cons (pe_ix (ix_list : IxR _ (rIxL K)) (pv 12) pe_int (fun _ _ => rfl)) (pa_cons (pe_callTy call_list_of (by rfl) T.z_list (by decide +kernel) (pa_cons (pe_ix (ix_tup : IxR _ (rIxT K)) (pv 7) pe_int (fun _ _ => rfl)) pa_nil)) pa_nil))) pe_bl (nomark _)) (pss_one (ps_ret pe_non)) pss_nil)
      (pss_cons (ps_set (i := 13) sc__law_step.nd rfl (Or.inl rfl) (pe_c C_holds_halves hr (by decide) (by rfl) (pa_cons (pe_ix (ix_list : IxR _ (rIxL K)) (pv 12) pe_int (fun _ _ => rfl)) (pa_cons (pe_callTy call_list_of (by rfl) T.z_list (by decide +kernel) (pa_cons (pe_ix (ix_tup : IxR _ (rIxT K)) (pv 7) pe_int (fun _ _ => rfl)) pa_nil)) pa_nil))))
      (pss_cons (ps_if (PW.pt (pw_or (pt_not (pt_val (pe_callB call_isi (by rfl) T.z_isinstance (by decide +kernel) (pa_cons (pv 13) (pa_cons (pe_bltn (v := .ty "bool") rfl T.z_bool (by decide +kernel) rfl) pa_nil))))) (pw_or1 (pt_cmpR op_ne (pv 13) (pe_cmpR (op_eqN (hu16 hr) : OpR _ (compareOp .Eq) (rEqN P w)) (pv 3) (pv 8) (nomark _)) (nomark _))))) (pss_one (ps_ret pe_non)) pss_nil)
      (pss_cons (ps_set (i := 14) sc__law_step.nd rfl (Or.inl rfl) (pe_c C__law_box hr (by decide) (by rfl) (pa_cons (pv 0) (pa_cons (pv 1) pa_nil))))
      (pss_cons (ps_if (pt_not (pt_val (pe_cg C__law_same hg hr (by decide) (by rfl) (pa_cons (pe_c C_by_halves hr (by decide) (by rfl) (pa_cons (pv 1) (pa_cons (pe_ix (ix_tup : IxR _ (rIxT K)) (pv 7) pe_int (fun _ _ => rfl)) (pa_cons (pv 14) pa_nil)))) (pa_cons (pe_c C__law_answer hr (by decide) (by rfl) (pa_cons (pv 8) (pa_cons (pv 14) pa_nil))) pa_nil))))) (pss_one (ps_ret pe_non)) pss_nil)
      (pss_cons (ps_expr (pe_bm PySem.F.plainAttrs_list PySem.F.slot_list_append PySem.F.type_list_append mt_append (pe_ix (ix_tup : IxR _ (rIxT K)) (pv 7) pe_int (fun _ _ => rfl)) (pa_cons pe_non pa_nil)))
      (pss_cons (ps_expr (pe_bm PySem.F.plainAttrs_list PySem.F.slot_list_append PySem.F.type_list_append mt_append (pe_ix (ix_tup : IxR _ (rIxT K)) (pv 7) pe_int (fun _ _ => rfl)) (pa_cons pe_non pa_nil)))
      (pss_cons (ps_if (pt_not (pt_val (pe_cg C__law_same hg hr (by decide) (by rfl) (pa_cons (pv 6) (pa_cons (pv 2) pa_nil))))) (pss_one (ps_ret pe_non)) pss_nil)
      (pss_one (ps_ret (pv 9))))))))))))))))))))), ?_⟩
    -- handed = list(table)
    obtain ⟨tv, htv, rtv⟩ := id ht
    refine ⟨.ref t, rfl, t, tv, rfl, .inl (.inl (.inl htv)), fun hd nhd => ?_⟩
    have s1 := same_new (o := .lst tv) nhd
    have lh1 : Ls (upd H hd (.lst tv)) hd ((halfB sd).map (tabk (TB g))) := ⟨tv, upd_same, rtv.mono (Same.tu s1)⟩
    -- the change
    refine ⟨.ref a, rfl, .ref hd, rfl, .ref e, rfl, .int n, rfl, a, hd, e, sd, g, p, n, rfl, ha.tu (Same.tu s1), lh1, he.tu (Same.tu s1), okp, ws, fun to u v H2 s2 hto hu0 hv0 huv lu lv => ?_⟩
    rw [hg'] at lu
    have s02 := s1.trans s2
    have lh2 := lh1.same s2
    have lt2 := ht.same s02
    have ha2 := ha.tu (Same.tu s02)
    have he2 := he.tu (Same.tu s02)
    have kd2 := kd.same s02
    have pen2 := pen.same s02
    have tu_ne : ∀ {x : Addr} {o : HO}, upd H hd (.lst tv) x = some o → x ≠ u ∧ x ≠ v := fun h => ⟨ne_of_none h hu0, ne_of_none h hv0⟩
    have hdu := tu_ne (x := hd) upd_same
    have hdt := tu_ne (s1 _ _ htv)
    have fu : H u = none := same_none s1 hu0
    have fv : H v = none := same_none s1 hv0
    have fhd : H hd = none := nhd
    -- later = dict(known)
    obtain ⟨es, D, ek, ev⟩ := id kd2
    refine ⟨.ref d, rfl, d, es, rfl, D, hash_es ws ek, fun dl ndl DD => ?_⟩
    have kdl3 : KD P w (upd H2 dl (DnO P w dl es)) dl sd g := ⟨es, DD, ek, ev⟩
    have s3 := same_new (o := DnO P w dl es) ndl
    -- later[place] = number
    refine ⟨.int n, rfl, .ref dl, rfl, .ref e, rfl, kdl3.put (he2.tu (Same.tu s3)) okp ws fun H4 o4 t4 kdl4 => ?_⟩
    rw [hg'] at kdl4
    have s24 : Same H2 H4 := off_fresh s3 ndl o4
    -- due
    refine ⟨.ref a, rfl, .ref dl, rfl, a, dl, sd, g', rfl, ha2.tu (Same.tu s24), kdl4, ws, fun du H5 s5 fdu ldu => ?_⟩
    have s25 := s24.trans s5
    obtain ⟨dv, hdv, rdv⟩ := id ldu
    have ldv : dv.length = (halfB sd).length := by rw [rdv.length, List.length_map]
    -- boxes
    refine ⟨.ref du, rfl, du, rfl, ⟨_, .inl (.inl hdv)⟩, fun bx hbx => ?_⟩
    refine lc_dataIf (halfB sd) (fun b => inB b.1 b.2 p) bxk (walk_list (xs := dv)) ldv.symm (small_le (by omega)) hbx (fun H' s => .inl (.inl (s _ _ hdv))) (fun i b vv H7 H8 hb s7 yy Qy Qn kt kf => ?_) (fun H6 bs s6 hbs rbs => ?_)
    · obtain ⟨rfl, gv⟩ := yy
      obtain ⟨v', gv', rv'⟩ := rdv.get (k := tabk (TB g') b) (by rw [List.getElem?_map, hb]; rfl)
      cases gv.symm.trans gv'
      obtain ⟨c, x, y, rfl, hc, hx, hy⟩ := rep_en (rv'.mono (Same.tu s7))
      have ok := (mem_halfB.mp (List.mem_of_getElem? hb)).ok ws.ps
      refine ⟨c, _, rfl, .inl (.inl hc), rfl, _, _, rfl, _, _, rfl, rfl, rfl, ?_⟩
      refine ⟨.ref x, rfl, .ref e, rfl, x, e, b, p, rfl, hx, (he2.tu (Same.tu s25)).tu (Same.tu s7), by rw [ok.len.1, okp.len], by rw [ok.len.2, okp.len], by rw [okp.len]; exact hl3, fun H9 s9 => ⟨_, rfl, ?_⟩⟩
      cases hin : inB b.1 b.2 p with
      | true => exact iteT ⟨.ref x, rfl, kt hin _ _ s9 (hx.tu (Same.tu s9)).rep⟩
      | false => exact iteF (kf hin _ s9)
    have s26 := s25.trans s6
    have lu6 := lu.same s26
    have lv6 := lv.same s26
    have ldu6 := ldu.same s6
    have lbx6 : Ls H6 bx (((halfB sd).filter fun b => inB b.1 b.2 p).map bxk) := ⟨bs, hbs, rbs⟩
    -- the first guard
    refine ⟨.ref to, rfl, .ref du, rfl, .ref bx, rfl, small_le (by show 2 ≤ _; decide), fun tt ntt => ?_⟩
    have s7 := same_new (o := .tup [V.ref du, V.ref bx]) ntt
    have s27 := s26.trans s7
    refine ⟨to, tt, .tuple [.list (NestedKey.datas ((halfB sd).map (tabk (TB g')))), .list (NestedKey.datas (((halfB sd).filter fun b => inB b.1 b.2 p).map bxk))], rfl, .tup (.inl (.inl (s27 _ _ hto))) (.cons (lu6.same s7).dp (.cons (lv6.same s7).dp .nil)), .tup (.inl (.inl upd_same)) (.cons (ldu6.same s7).dp (.cons (lbx6.same s7).dp .nil)), told_nice ws bd', true, rfl, iteF ?_⟩
    refine ⟨.ref hd, rfl, .ref t, rfl, hd, t, _, rfl, (lh2.same s27).dp, (lt2.same s27).dp, table_nice ws bd, true, rfl, iteF ?_⟩
    refine ⟨.ref bx, rfl, bx, _, rfl, .inl (.inl (.inl (s7 _ _ hbs))), .ref a, rfl, a, sd, rfl, ha2.tu (Same.tu s27), ws, fun rs H8 l1 l2 s8 => ⟨_, _, rfl, rfl, _, rfl, ite2 (fun z => ?_) fun _ => ?_⟩⟩
    · have hb := halfB_has ws.ps okp l1 l2
      have z := of_decide_eq_true z
      rw [rbs.length, List.length_map] at z
      unfold prodN at z
      omega
    have s28 := s27.trans s8
    have ldu8 := (ldu6.same s7).same s8
    -- later_ones = dict(due)
    obtain ⟨eys, ees, de1, de2, de3, de4⟩ := dict_pre (P := P) (w := w) ldu8 nd (by omega)
    refine ⟨.ref du, rfl, du, eys, ees, rfl, .inl (.inl de1), de2, de3, fun lo flo DL => ?_⟩
    have td := de4 lo flo DL
    have s9 := same_new (o := DnO P w lo ees) flo
    have s29 := s28.trans s9
    have lt9 := lt2.same s29
    have he9 := he2.tu (Same.tu s29)
    obtain ⟨tw, htw, rtw⟩ := id lt9
    have ltw : tw.length = (halfB sd).length := by rw [rtw.length, List.length_map]
    -- the second guard
    refine ⟨.ref t, rfl, t, rfl, ⟨_, .inl (.inl htw)⟩, fun D9 hD9 => ?_⟩
    refine lc_dataIf (halfB sd) (fun _ => false) bxk (walk_list (xs := tw)) ltw.symm (small_le (by omega)) hD9 (fun H' s => .inl (.inl (s _ _ htw))) (fun i b vv H11 H12 hb s11 yy Qy Qn kt kf => ?_) (fun H10 zs s10 hzs rzs => ?_)
    · obtain ⟨rfl, gv⟩ := yy
      obtain ⟨v', gv', rv'⟩ := rtw.get (k := tabk (TB g) b) (by rw [List.getElem?_map, hb]; rfl)
      cases gv.symm.trans gv'
      obtain ⟨c, x, y, rfl, hc, hx, hy⟩ := rep_en (rv'.mono (Same.tu s11))
      have hbm := List.mem_of_getElem? hb
      have ok := (mem_halfB.mp hbm).ok ws.ps
      refine ⟨c, _, rfl, .inl (.inl hc), rfl, _, _, rfl, _, _, rfl, rfl, rfl, ?_⟩
      refine ⟨.ref lo, rfl, .ref x, rfl, (td.same s11).ix hbm hx fun c0 h0 => ⟨.ref y, rfl, ne_tr h0 hy ⟨_, rfl, ite2 (fun z => ?_) (fun z => ?_)⟩⟩⟩
      · have hin : inB b.1 b.2 p = true := by
          cases hin : inB b.1 b.2 p with
          | true => rfl
          | false =>
            have := TB_chg (f := g) (n := n) ok hin
            rw [hg'] at this
            rw [this, decide_eq_true rfl] at z
            cases z
        refine ⟨.ref x, rfl, .ref e, rfl, x, e, b, p, rfl, hx, he9.tu (Same.tu s11), by rw [ok.len.1, okp.len], by rw [ok.len.2, okp.len], by rw [okp.len]; exact hl3, fun H13 s13 => ⟨_, rfl, ?_⟩⟩
        rw [hin]
        exact iteF (kf rfl _ s13)
      · exact iteF (kf rfl _ (Same.refl _))
    have s210 := s29.trans s10
    have ez : zs = [] := by
      have := rzs.length
      rw [List.length_map, List.filter_eq_nil_iff.mpr (fun _ _ z => Bool.noConfusion z)] at this
      exact List.length_eq_zero_iff.mp this
    subst ez
    refine ⟨Nat.zero_le _, fun Z nZ => ?_⟩
    have sZ := same_new (o := .lst []) nZ
    refine ⟨.inl [], .inl [], .lst (.inl (.inl (sZ _ _ hzs))) .nil, .lst (.inl (.inl upd_same)) .nil, by decide, by decide, _, rfl, ?_⟩
    rw [decide_eq_true rfl]
    refine iteF ?_
    have s211 := s210.trans sZ
    have ha11 := ha2.tu (Same.tu s211)
    have kd11 := kd2.same s211
    have kdl11 : KD P w (upd H10 Z (.lst [])) dl sd g' := by
      have s411 : Same H4 (upd H10 Z (.lst [])) := s5.trans ((s6.trans (s7.trans s8)).trans (s9.trans (s10.trans sZ)))
      exact kdl4.same s411
    have ldu11 := ldu8.same (s9.trans (s10.trans sZ))
    have lu11 := lu.same s211
    have lt11 := lt2.same s211
    have lh11 := lh2.same s211
    have lv11 := lv.same s211
    have hto11 := s211 _ _ hto
    have pen11 := pen2.same s211
    have fdu0 : H du = none := same_none (s02.trans s24) fdu
    generalize upd H10 Z (.lst []) = H11 at s211 ha11 kd11 kdl11 ldu11 lu11 lt11 lh11 lv11 hto11 pen11 ⊢
    -- the fields
    refine ⟨.ref d, rfl, .ref dl, rfl, small_le (by show 2 ≤ _; decide), fun tp ntp => ?_⟩
    have sp := same_new (o := .tup [V.ref d, V.ref dl]) ntp
    refine ⟨tp, rfl, ⟨_, .inl (.inl upd_same)⟩, fun fl nfl => ?_⟩
    have htp0 : upd H11 tp (.tup [V.ref d, V.ref dl]) tp = some (.tup [V.ref d, V.ref dl]) := upd_same
    refine lc_all [(d, g), (dl, g')] (fun (q : Addr × (Pl → Int)) H y => ∃ u, y = V.ref u ∧ FdAt H u sd q.2) (S := nowhere) (fun _ => True) (walk_tup (xs := [(d, g), (dl, g')].map fun q : Addr × (Pl → Int) => V.ref q.1)) rfl (small_le (by show 2 ≤ _; decide)) nfl (fun z => z) trivial (fun _ _ _ _ => trivial) (fun H' o _ => .inl (.inl (o.same _ _ htp0)))
      (fun q y H13 H14 _ hd o h => ?_) (fun i q vv H13 H14 hq o _ _ yy Qy k => ?_) (fun H12 fs o12 _ hfs hfp => ?_)
    · obtain ⟨u, rfl, hu⟩ := h
      exact ⟨u, rfl, hu.tu (tu_off hd (fun _ z => z.elim) o)⟩
    · obtain ⟨rfl, rfl⟩ := yat_map yy hq
      have s13 := sp.trans o.same
      have ha13 := ha11.tu (Same.tu s13)
      have kq : KD P w H13 q.1 sd q.2 := by
        rcases List.mem_cons.mp (List.mem_of_getElem? hq) with rfl | h
        · exact kd11.same s13
        · rw [List.mem_singleton.mp h]; exact kdl11.same s13
      obtain ⟨es1, D1, ek1, ev1⟩ := id kq
      have les1 : es1.length = (pls sd).length := by
        have := congrArg List.length ek1
        rw [List.length_map, List.length_map] at this; exact this
      have hlp : (pls sd).length ≤ 120 := by rw [pls_len]; exact ws.n
      refine ⟨rfl, .ref a, rfl, .ref q.1, rfl, q.1, es1, rfl, D1, fun l nl => ?_⟩
      have sl := same_new (o := .lst (es1.map fun x => V.ref x.2.1)) nl
      refine ⟨l, _, pls sd, sd.length, rfl, .inl (.inl upd_same), (reps_keys (sd := sd) D1.c.keys ek1).mono (Same.tu sl), ws.pos, fun p hp => (mem_pls.mp hp).len, fun so ys ps' hpm hpw hrr nso => ?_⟩
      have eps := pls_sorted hpm hpw
      subst eps
      have sso := same_new (o := .lst ys) nso
      have hso : upd (upd H13 l (.lst (es1.map fun x => V.ref x.2.1))) so (.lst ys) so = some (.lst ys) := upd_same
      have rys := hrr.mono (Same.tu sso)
      have lys : ys.length = (pls sd).length := by rw [rys.length, List.length_map]
      refine ⟨so, rfl, ⟨_, .inl (.inl hso)⟩, fun D2 hD2 => ?_⟩
      have kq2 := (kq.same sl).same sso
      refine lc_vals (pls sd) (fun p => .int (q.2 p)) (walk_list (xs := ys)) lys.symm (small_le (by omega)) hD2 (fun H' s => .inl (.inl (s _ _ hso))) (fun j pp vv H15 H16 hp s15 y2 Qy2 k2 => ?_) (fun H15 s15 hD15 => ?_)
      · obtain ⟨rfl, gv⟩ := y2
        obtain ⟨v', gv', rv'⟩ := rys.get (k := plc pp) (by rw [List.getElem?_map, hp]; rfl)
        cases gv.symm.trans gv'
        obtain ⟨c, rfl, hc⟩ := rep_pl (rv'.mono (Same.tu s15))
        exact ⟨rfl, .ref q.1, rfl, .ref c, rfl, (kq2.same s15).ix hc (mem_pls.mp (List.mem_of_getElem? hp)) (k2 _ (Same.refl _))⟩
      · refine ⟨D2, _, rfl, .inl ⟨.inl (.inl hD15), fun y ny => ⟨small_le (by show 2 ≤ _; decide), fun uu nu => ?_⟩⟩⟩
        have sy := same_new (o := .tup ((pls sd).map fun p => V.int (q.2 p))) ny
        have su := same_new (o := .tup [V.ref a, V.ref y]) nu
        have sAll := (sl.trans sso).trans (s15.trans (sy.trans su))
        exact k _ _ (same_off sAll) trivial ⟨uu, rfl, ⟨a, y, upd_same, ha13.tu (Same.tu sAll), su _ _ upd_same⟩, ws⟩
    have s12 := sp.trans o12.same
    obtain ⟨f0, g0, u0, ef0, hf0⟩ := pr_get hfp (i := 0) rfl
    subst ef0
    obtain ⟨f1, g1, u1, ef1, hf1⟩ := pr_get hfp (i := 1) rfl
    subst ef1
    have hto12 := s12 _ _ hto11
    obtain ⟨uv, huv12, ruv⟩ := lu11.same s12
    -- the changed field holds
    refine ⟨.ref fl, rfl, fl, fs, 1, .ref u1, rfl, rfl, .inl (.inl hfs), atI_nat (j := 1) g1, .ref to, rfl, to, _, 0, _, rfl, rfl, .inl (.inl hto12), rfl, u, uv, rfl, .inl (.inl (.inl huv12)), fun l1a nl1 => ?_⟩
    have sl1 := same_new (o := .lst uv) nl1
    refine ⟨u1, l1a, sd, g', g', rfl, hf1.tu (Same.tu sl1), ⟨uv, upd_same, ruv.mono (Same.tu sl1)⟩, fun H13 s13 => ⟨_, _, rfl, rfl, _, rfl, ?_⟩⟩
    rw [agr_self, decide_eq_true rfl]
    refine iteF ?_
    have s1213 := sl1.trans s13
    -- ahead
    have hfs13 := s1213 _ _ hfs
    have hto13 := s1213 _ _ hto12
    have huv13 := s1213 _ _ huv12
    refine ⟨.ref fl, rfl, fl, fs, 0, .ref u0, rfl, rfl, .inl (.inl hfs13), atI_nat (j := 0) g0, .ref to, rfl, to, _, 0, _, rfl, rfl, .inl (.inl hto13), rfl, u, uv, rfl, .inl (.inl (.inl huv13)), fun l2a nl2 => ?_⟩
    have sl2 := same_new (o := .lst uv) nl2
    refine ⟨u0, l2a, sd, g, g', rfl, (hf0.tu (Same.tu s1213)).tu (Same.tu sl2), ⟨uv, upd_same, (ruv.mono (Same.tu s1213)).mono (Same.tu sl2)⟩, fun H14 s14 => ?_⟩
    have s1114 := s12.trans (s1213.trans (sl2.trans s14))
    have kd14 := kd11.same s1114
    have kdl14 := kdl11.same s1114
    obtain ⟨es1, D1, ek1, ev1⟩ := id kd14
    obtain ⟨es2, D2, ek2, ev2⟩ := id kdl14
    -- the fourth guard
    refine ⟨_, rfl, .bl _, .ty "bool", _, _, true, rfl, .ty _, .base (.bl _), kit_ty (by decide +kernel), true, rfl, iteF ?_⟩
    refine ⟨_, rfl, .ref d, rfl, .ref dl, rfl, d, dl, es1, es2, _, _, rfl, rfl, D1, D2, by rw [ek1, ek2], ints_of ev1, ints_of ev2, rfl, _, rfl, ?_⟩
    rw [agr_eq, decide_eq_true rfl]
    refine iteF ?_
    -- the box
    have pen14 := pen11.same s1114
    have ha14 := ha11.tu (Same.tu s1114)
    refine ⟨.ref pa, rfl, .ref a, rfl, pa, sa, a, ns, sd, rfl, pen14, ha14, ws, fun ba bb H15 okb hba o15 pen15 => ?_⟩
    have tu15 := pen14.tu o15
    have ne_pa : ∀ {x : Addr}, H x = none → x ≠ pa := fun h => pen.ne h
    have lu15 := (lu11.same s1114).off o15 tu15 (ne_pa fu)
    have lv15 := (lv11.same s1114).off o15 tu15 (ne_pa fv)
    have lt15 := (lt11.same s1114).off o15 tu15 htp
    have lh15 := (lh11.same s1114).off o15 tu15 (ne_pa fhd)
    have ldu15 := (ldu11.same s1114).off o15 tu15 (ne_pa fdu0)
    have hto15 : H15 to = some (.tup [.ref u, .ref v]) := tu15 _ _ (s1114 _ _ hto11)
    obtain ⟨φ, hφ⟩ := kdl14.at
    have kdl15 := kdl14.off o15 tu15 (pen14.ned hφ (fun xs z => by cases z))
    have ha15 := ha14.tu tu15
    -- by_halves, _law_answer
    refine ⟨.ref a, rfl, .ref to, rfl, to, _, 0, _, rfl, rfl, .inl (.inl hto15), rfl, .ref ba, rfl, a, u, ba, sd, g', bb, rfl, ha15, lu15, hba, okb, ws, fun r1 H16 s16 hr1 => ?_⟩
    refine ⟨.ref dl, rfl, .ref ba, rfl, dl, ba, sd, g', bb, rfl, kdl15.same s16, hba.tu (Same.tu s16), okb, ws, fun r2 H17 s17 hr2 => ?_⟩
    refine ⟨r1, r2, _, rfl, (hr1.tu (Same.tu s17)).rep.dp, hr2.rep.dp, trk_nice (TB_small ws bd' okb), true, rfl, iteF ?_⟩
    have s1517 := s16.trans s17
    obtain ⟨uw, huw, ruw⟩ := lu15.same s1517
    obtain ⟨vw, hvw, rvw⟩ := lv15.same s1517
    have hto17 := s1517 _ _ hto15
    have luw : uw.length ≤ 343 := by rw [ruw.length, List.length_map]; exact hlen
    have lvw : vw.length ≤ 343 := by rw [rvw.length, List.length_map]; exact Nat.le_trans (List.length_filter_le _ _) hlen
    -- told[0].append(None); told[1].append(None)
    refine ⟨.ref to, rfl, to, _, 0, _, rfl, rfl, .inl (.inl hto17), rfl, .inl ⟨rfl, _, .inl (.inl huw)⟩, u, uw, .non, rfl, rfl, huw, small_lt (by omega), ?_⟩
    have hto18 : upd H17 u (.lst (uw ++ [V.non])) to = some (.tup [.ref u, .ref v]) := Tu.lst huw _ _ hto17
    have hv18 : upd H17 u (.lst (uw ++ [V.non])) v = some (.lst vw) := by rw [upd_ne huv.symm]; exact hvw
    refine ⟨.ref to, rfl, to, _, 1, _, rfl, rfl, .inl (.inl hto18), rfl, .inl ⟨rfl, _, .inl (.inl hv18)⟩, v, vw, .non, rfl, rfl, hv18, small_lt (by omega), ?_⟩
    have oU : Off (isA u) H17 (upd H17 u (.lst (uw ++ [V.non]))) := Off.at rfl
    have oV : Off (isA v) (upd H17 u (.lst (uw ++ [V.non]))) (upd (upd H17 u (.lst (uw ++ [V.non]))) v (.lst (vw ++ [V.non]))) := Off.at rfl
    have tU : Tu H17 (upd H17 u (.lst (uw ++ [V.non]))) := Tu.lst huw
    have tV : Tu (upd H17 u (.lst (uw ++ [V.non]))) (upd (upd H17 u (.lst (uw ++ [V.non]))) v (.lst (vw ++ [V.non]))) := Tu.lst hv18
    have lh19 := ((lh15.same s1517).off oU tU hdu.1).off oV tV hdu.2
    have lt19 := ((lt15.same s1517).off oU tU hdt.1).off oV tV hdt.2
    -- du is another list than told's
    have hdun : du ≠ u ∧ du ≠ v := by
      obtain ⟨xu, hxu, _⟩ := lu.same s24
      obtain ⟨xv, hxv, _⟩ := lv.same s24
      exact ⟨(ne_of_none hxu fdu).symm, (ne_of_none hxv fdu).symm⟩
    have ldu19 := ((ldu15.same s1517).off oU tU hdun.1).off oV tV hdun.2
    refine ⟨.ref hd, rfl, .ref t, rfl, hd, t, _, rfl, lh19.dp, lt19.dp, table_nice ws bd, true, rfl, iteF ?_⟩
    have o0 : Off (isA pa) H H17 := ((same_off (s02.trans (s211.trans s1114))).trans o15).trans (same_off s1517)
    have oEnd : Off (isA pa) H (upd (upd H17 u (.lst (uw ++ [V.non]))) v (.lst (vw ++ [V.non]))) := Off.fresh fv (Off.fresh fu o0)
    have pen17 := pen15.same s1517
    have pen19 := (pen17.upd (o := .lst (uw ++ [V.non])) (pen.ne fu).symm (apart_new pen.scr fu)).upd (o := .lst (vw ++ [V.non])) (pen.ne fv).symm (apart_new pen.scr fv)
    exact ⟨.ref du, rfl, q du _ oEnd pen19 fdu0 ldu19⟩
end Bx

set_option Elab.async false
set_option linter.all false
set_option maxRecDepth 100000
set_option maxHeartbeats 4000000
/-! law. -/
namespace Bx
open PySem PySem.Spec PyProof.Rows L2
variable {P : Program} {w : World} {K : PySem.W.Frag} {mg : Str → Option Value} {base : Heap}
theorem chg_back (f : Pl → Int) (p : Pl) (n : Int) : chg (chg f p n) p (f p) = f := by
  funext q
  unfold chg
  split
  · rename_i h; rw [h]
  · rfl
abbrev tab (sd : List Int) (f : Pl → Int) : List NestedKey := (halfB sd).map (tabk (TB f))
/-- what stands while the law walks its turns -/
structure LawAt (P : Program) (w : World) (K : PySem.W.Frag) (H : Hp) (pa sa : Addr) (ns : List Int) (u a d pl fi : Addr) (sd : List Int) (f0 f : Pl → Int) (t e : Addr) (p : Pl) : Prop where
  pen : PenAt K H pa sa ns
  fd : FdAt H u sd f0
  ha : PlAt H a sd
  hpl : Ls H pl ((pls sd).map plc)
  hfi : Ls H fi (tab sd f0)
  kd : KD P w H d sd f
  bd : Bd sd f
  b0 : Bd sd f0
  ht : Ls H t (tab sd f)
  he : PlAt H e p
  okp : OkP sd p
  n1 : pl ≠ pa
  n2 : fi ≠ pa
  n3 : t ≠ pa
theorem LawAt.off {H H' : Hp} {pa sa u a d pl fi t e : Addr} {ns sd : List Int} {f0 f : Pl → Int} {p : Pl} (L : LawAt P w K H pa sa ns u a d pl fi sd f0 f t e p) (o : Off (isA pa) H H') (pn : PenAt K H' pa sa ns) :
    LawAt P w K H' pa sa ns u a d pl fi sd f0 f t e p := by
  have tu := L.pen.tu o
  obtain ⟨φ, hφ⟩ := L.kd.at
  exact ⟨pn, L.fd.tu tu, L.ha.tu tu, L.hpl.off o tu L.n1, L.hfi.off o tu L.n2, L.kd.off o tu (L.pen.ned hφ (fun xs z => by cases z)), L.bd, L.b0, L.ht.off o tu L.n3, L.he.tu tu, L.okp, L.n1, L.n2, L.n3⟩
theorem LawAt.same {H H' : Hp} {pa sa u a d pl fi t e : Addr} {ns sd : List Int} {f0 f : Pl → Int} {p : Pl} (L : LawAt P w K H pa sa ns u a d pl fi sd f0 f t e p) (s : Same H H') : LawAt P w K H' pa sa ns u a d pl fi sd f0 f t e p :=
  L.off (same_off s) (L.pen.same s)
theorem pls_pos {sd : List Int} (ws : WS sd) : 0 < (pls sd).length := by
  have : ∀ {sd : List Int}, Pos1 sd → 0 < szs sd := by
    intro sd
    induction sd with
    | nil => intro _; decide
    | cons s sd ih => intro h; exact Nat.mul_pos (by have := h s List.mem_cons_self; omega) (ih fun x hx => h x (List.mem_cons_of_mem _ hx))
  rw [pls_len]; exact this ws.ps
/-- a place picked out of the list of places -/
theorem pick_pl {H : Hp} {pl : Addr} {sd : List Int} {r : Int} (l : Ls H pl ((pls sd).map plc)) (h0 : 0 ≤ r) (h1 : r < ((pls sd).length : Nat)) : ∃ xs e p, H pl = some (.lst xs) ∧ atI xs r = some (.ref e) ∧ PlAt H e p ∧ OkP sd p := by
  obtain ⟨xs, hx, rx⟩ := l
  have hr : r.toNat < (pls sd).length := by omega
  have g := List.getElem?_eq_getElem hr
  obtain ⟨v, gv, rv⟩ := rx.get (k := plc (pls sd)[r.toNat]) (by rw [List.getElem?_map, g]; rfl)
  obtain ⟨e, rfl, he⟩ := rep_pl rv
  refine ⟨xs, e, _, hx, ?_, he, mem_pls.mp (List.mem_of_getElem? g)⟩
  have := atI_nat gv
  rw [Int.toNat_of_nonneg h0] at this
  exact this
def sp_law (K : PySem.W.Frag) : Sp := fun vs H Q _ => ∃ (s : Addr) (ns : List Int), vs = [.ref s] ∧ SqL K H s (ns.map V.int) ∧ ∀ H', Q (.bl true) H'
theorem fn_law (T : Tx K mg) {fa : Addr} {fad : FuncData} (F : Fun K "law" "law" s_law fa fad) : FnG P w K mg base 6 fa fad ["_law_script"] (sp_law K) := by
  have C__law_pen := c__law_pen (P := P) (w := w) (base := base) T
  have C__law_field := c__law_field (P := P) (w := w) (base := base) T
  have C__law_places := c__law_places (P := P) (w := w) (base := base) T
  have C_halves_of := c_halves_of (P := P) (w := w) (base := base) T
  have C__law_take := c__law_take (P := P) (w := w) (base := base) T
  have C__law_number := c__law_number (P := P) (w := w) (base := base) T
  have C__law_step := c__law_step (P := P) (w := w) (base := base) T
  have C_changed_halves := c_changed_halves (P := P) (w := w) (base := base) T
  have C__law_same := c__law_same (P := P) (w := w) (base := base) T
  refine okG F sc_law (fun vs H Q E h => ?_) (fun cdv A outer s H vs Q E hg hr h => ?_)
  · obtain ⟨_, _, rfl, _⟩ := h; rfl
  · obtain ⟨sa, ns, rfl, hs, q⟩ := h
    refine ⟨_, (pss_cons (ps_set (i := 1) sc_law.nd rfl (Or.inl rfl) (pe_c C__law_pen hr (by decide) (by rfl) (pa_cons (pv 0) pa_nil)))
      (pss_cons (ps_for PassesOwn.never rfl (pi_range1 (by rfl) T.z_range (pa_cons pe_int pa_nil)) (pg_name (i := 2) sc_law.nd rfl (Or.inl rfl)) (pss_cons (ps_asg (pe_c C__law_field hr (by decide) (by rfl) (pa_cons (pv 1) pa_nil)) (pg_tup rfl (pgs_cons (pg_name (i := 3) sc_law.nd rfl (Or.inl rfl)) (pgs_cons (pg_name (i := 4) sc_law.nd rfl (Or.inl rfl)) pgs_nil))))
      (pss_cons (ps_set (i := 5) sc_law.nd rfl (Or.inl rfl) (pe_ix (ix_tup : IxR _ (rIxT K)) (pv 3) pe_int (fun _ _ => rfl)))
      (pss_cons (ps_set (i := 6) sc_law.nd rfl (Or.inl rfl) (pe_c C__law_places hr (by decide) (by rfl) (pa_cons (pv 5) pa_nil)))
      (pss_cons (ps_set (i := 7) sc_law.nd rfl (Or.inl rfl) (pe_c C_halves_of hr (by decide) (by rfl) (pa_cons (pv 3) pa_nil)))
      (pss_cons (ps_set (i := 8) sc_law.nd rfl (Or.inl rfl) (pe_callTy call_list_of (by rfl) T.z_list (by decide +kernel) (pa_cons (pv 7) pa_nil)))
      (pss_cons (ps_set (i := 9) sc_law.nd rfl (Or.inl rfl) (pe_ix (ix_list : IxR _ (rIxL K)) (pv 6) (pe_c C__law_take hr (by decide) (by rfl) (pa_cons (pv 1) (pa_cons (pe_callB call_len_seq (by rfl) T.z_len PySem.boot_len (pa_cons (pv 6) pa_nil)) pa_nil))) (fun _ _ => rfl)))
      (pss_cons (ps_for PassesOwn.never rfl (pi_range1 (by rfl) T.z_range (pa_cons (pe_op op_add pe_int (pe_c C__law_take hr (by decide) (by rfl) (pa_cons (pv 1) (pa_cons (pe_ix (ix_list : IxR _ (rIxL K)) (pe_lst (pa_cons pe_int (pa_cons pe_int pa_nil))) (pe_callTy call_int1 (by rfl) T.z_int (by decide +kernel) (pa_cons (pe_cmpR op_gt (pe_callB call_lenN (by rfl) T.z_len PySem.boot_len (pa_cons (pv 4) pa_nil)) pe_int (nomark _)) pa_nil)) (fun _ _ => rfl)) pa_nil)))) pa_nil)) (pg_name (i := 10) sc_law.nd rfl (Or.inl rfl)) (C8.pss_cut (ps_if (pt_cmpR op_eq (pe_c C__law_take hr (by decide) (by rfl) (pa_cons (pv 1) (pa_cons pe_int pa_nil))) pe_int (nomark _)) (pss_one (ps_set (i := 9) sc_law.nd rfl (Or.inl rfl) (pe_ix (ix_list : IxR _ (rIxL K)) (pv 6) (pe_c C__law_take hr (by decide) (by rfl) (pa_cons (pv 1) (pa_cons (pe_callB call_len_seq (by rfl) T.z_len PySem.boot_len (pa_cons (pv 6) pa_nil)) pa_nil))) (fun _ _ => rfl)))) pss_nil)
      (pss_cons (ps_set (i := 11) sc_law.nd rfl (Or.inl rfl) (pe_ix (ix_list : IxR _ (rIxL K)) (pe_lst (pa_cons (pe_c C__law_number hr (by decide) (by rfl) (pa_cons (pv 1) pa_nil)) (pa_cons (pe_ix (ix_dn (hu16 hr) : IxR _ (rIxN P w)) (pv 4) (pv 9) (fun _ _ => rfl)) pa_nil))) (pe_callTy call_int1 (by rfl) T.z_int (by decide +kernel) (pa_cons (pe_cmpR op_eq (pe_c C__law_take hr (by decide) (by rfl) (pa_cons (pv 1) (pa_cons pe_int pa_nil))) pe_int (nomark _)) pa_nil)) (fun _ _ => rfl)))
      (pss_cons (ps_set (i := 12) sc_law.nd rfl (Or.inl rfl) (pe_ix (ix_dn (hu16 hr) : IxR _ (rIxN P w)) (pv 4) (pv 9) (fun _ _ => rfl)))
      (pss_cons (ps_set (i := 7) sc_law.nd rfl (Or.inl rfl) (pe_cg C__law_step hg hr (by decide) (by rfl) (pa_cons (pv 1) (pa_cons (pv 5) (pa_cons (pv 7) (pa_cons (pv 4) (pa_cons (pv 9) (pa_cons (pv 11) pa_nil))))))))
      (pss_cons (ps_if (pt_cmpR op_isN (pv 7) pe_non (nomark _)) (pss_one (ps_ret pe_bl)) pss_nil)
      (C8.pss_cut (ps_if (PW.pt (pw_and (pt_cmpR op_eq (pv 10) pe_int (nomark _)) (pw_and1 (pt_cmpR (op_neK (hu64 hr) : OpR _ (compareOp .NotEq) (rNeK K)) (pe_ix (ix_tup : IxR _ (rIxT K)) (pe_c C_changed_halves hr (by decide) (by rfl) (pa_cons (pv 5) (pa_cons (pe_callTy call_list_of (by rfl) T.z_list (by decide +kernel) (pa_cons (pv 7) pa_nil)) (pa_cons (pv 9) (pa_cons (pv 12) pa_nil))))) pe_int (fun _ _ => rfl)) (pv 8) (nomark _))))) (pss_one (ps_ret pe_bl)) pss_nil)
      (pss_one (ps_asg (pv 11) (pg_sub (pv 4) (pv 9) (set_dn (hu16 hr) : PSet _ (rPutN P w)) (fun _ => rfl)))))))))))
      (pss_one (ps_if (pt_not (pt_val (pe_cg C__law_same hg hr (by decide) (by rfl) (pa_cons (pv 8) (pa_cons (pe_c C_halves_of hr (by decide) (by rfl) (pa_cons (pv 3) pa_nil)) pa_nil))))) (pss_one (ps_ret pe_bl)) pss_nil))))))))))
      (pss_one (ps_ret pe_bl)))), ?_⟩
    refine ⟨.ref sa, rfl, sa, ns, rfl, hs, fun pa H0 s0 fpa pen0 => ?_⟩
    refine ⟨2, rfl, by decide, by decide, ?_⟩
    refine for_it walk_range0 (fun i σ H1 => PenAt K H1 pa sa ns ∧ ∃ y2 y3 y4 y5 y6 y7 y8 y9 y10 y11 y12, σ = [some (.ref sa), some (.ref pa), y2, y3, y4, y5, y6, y7, y8, y9, y10, y11, y12]) ⟨pen0, none, none, none, none, none, none, none, none, none, none, none, rfl⟩ (fun _ _ _ _ _ => trivial) (fun i v σ H1 H2 hi h yy => ?_) (fun σ H1 h => ?_)
    · obtain ⟨pen, y2, y3, y4, y5, y6, y7, y8, y9, y10, y11, y12, rfl⟩ := h
      obtain ⟨rfl, rfl⟩ := yy
      -- field, known
      refine ⟨.ref pa, rfl, pa, sa, ns, rfl, pen, fun r u d sd f0 H3 hr3 fd kd b0 o3 pen3 => ?_⟩
      refine ⟨r, _, rfl, .inl (.inl hr3), rfl, _, _, rfl, _, _, rfl, rfl, ?_⟩
      obtain ⟨a, yc, hu, ha, hyc⟩ := fd.ex
      have ws := fd.ws
      have hlen := halfB_len ws
      have hlp : (pls sd).length ≤ 120 := by rw [pls_len]; exact ws.n
      -- sides, places, table, first
      refine ⟨.ref u, rfl, u, _, 0, _, rfl, rfl, .inl (.inl hu), rfl, ?_⟩
      refine ⟨.ref a, rfl, a, sd, rfl, ha, ws, fun pl H4 s4 fpl lpl => ?_⟩
      refine ⟨.ref u, rfl, u, sd, f0, rfl, fd.tu (Same.tu s4), fun t0 H5 s5 ft0 lt0 => ?_⟩
      obtain ⟨tv, htv, rtv⟩ := id lt0
      refine ⟨.ref t0, rfl, t0, tv, rfl, .inl (.inl (.inl htv)), fun fi nfi => ?_⟩
      have s6 := same_new (o := .lst tv) nfi
      have lfi : Ls (upd H5 fi (.lst tv)) fi (tab sd f0) := ⟨tv, upd_same, rtv.mono (Same.tu s6)⟩
      have s36 := s4.trans (s5.trans s6)
      have pen6 := pen3.same s36
      have lpl6 := lpl.same (s5.trans s6)
      have npl := pen3.ne fpl
      have nt0 := (pen3.same s4).ne ft0
      have nfi' := ((pen3.same s4).same s5).ne nfi
      have lt6 := lt0.same s6
      have kd6 := kd.same s36
      have fd6 := fd.tu (Same.tu s36)
      have ha6 := ha.tu (Same.tu s36)
      generalize upd H5 fi (.lst tv) = H6 at s6 lfi s36 pen6 lpl6 lt6 kd6 fd6 ha6 ⊢
      -- place
      obtain ⟨pxs, hpx, rpx⟩ := id lpl6
      have lpx : pxs.length = (pls sd).length := by rw [rpx.length, List.length_map]
      refine ⟨.ref pl, rfl, .ref pa, rfl, .ref pl, rfl, pl, pxs, rfl, .inl (.inl (.inl hpx)), pa, sa, ns, (pxs.length : Nat), rfl, pen6, by rw [lpx]; have := pls_pos ws; omega, by rw [lpx]; omega, fun r1 H7 c0 c1 o7 pen7 => ?_⟩
      have tu7 := pen6.tu o7
      obtain ⟨xs7, e, p, hx7, at7, he7, okp⟩ := pick_pl (lpl6.off o7 tu7 npl) c0 (by rw [← lpx]; exact c1)
      refine ⟨pl, xs7, r1, .ref e, rfl, rfl, .inl (.inl hx7), at7, ?_⟩
      obtain ⟨φ, hφ⟩ := kd6.at
      have L7 : LawAt P w K H7 pa sa ns u a d pl fi sd f0 f0 t0 e p := ⟨pen7, fd6.tu tu7, ha6.tu tu7, lpl6.off o7 tu7 npl, lfi.off o7 tu7 nfi', kd6.off o7 tu7 (pen6.ned hφ (fun xs z => by cases z)), b0, b0, lt6.off o7 tu7 nt0, he7, okp, npl, nfi', nt0⟩
      -- how many turns
      refine ⟨.ref pa, rfl, small_le (by show 2 ≤ _; decide), fun ml nml => ?_⟩
      have sml := same_new (o := .lst [V.int 6, V.int 2]) nml
      obtain ⟨es, D, ek, ev⟩ := id (L7.kd.same sml)
      refine ⟨.ref d, rfl, d, es, rfl, D, (es.length : Nat), 30, rfl, rfl, .inr ⟨_, rfl, ?_⟩⟩
      have L8 := L7.same sml
      have pkm : ∃ m : Int, atI [V.int 6, V.int 2] (if decide ((30 : Int) < (es.length : Nat)) = true then 1 else 0) = some (.int m) ∧ 0 < m ∧ m ≤ 6 := by
        by_cases z : decide ((30 : Int) < (es.length : Nat)) = true
        · rw [if_pos z]; exact ⟨2, rfl, by decide, by decide⟩
        · rw [if_neg z]; exact ⟨6, rfl, by decide, by decide⟩
      obtain ⟨m, atm, hm0, hm6⟩ := pkm
      refine ⟨ml, _, _, .int m, rfl, rfl, .inl (.inl upd_same), atm, ?_⟩
      refine ⟨pa, sa, ns, m, rfl, L8.pen, hm0, by omega, fun r2 H9 d0 d1 o9 pen9 => ?_⟩
      refine ⟨1, r2, rfl, rfl, _, rfl, by omega, by omega, ?_⟩
      have L9 := L8.off o9 pen9
      refine for_it walk_range0 (fun j σ H10 => ∃ (f : Pl → Int) (t e : Addr) (p : Pl) (y10 y11 y12 : Option V), σ = [some (.ref sa), some (.ref pa), some (.int ((i : Nat) : Int)), some (.ref u), some (.ref d), some (.ref a), some (.ref pl), some (.ref t), some (.ref fi), some (.ref e), y10, y11, y12] ∧
          LawAt P w K H10 pa sa ns u a d pl fi sd f0 f t e p ∧ (j = 0 → f = f0)) ⟨f0, t0, e, p, _, _, _, rfl, L9, fun _ => rfl⟩ (fun _ _ _ _ _ => trivial) (fun j v σ H10 H11 hj h yy => ?_) (fun σ H10 h => ?_)
      · obtain ⟨f1, t, e, p, y10, y11, y12, rfl, L, hj0⟩ := h
        obtain ⟨rfl, rfl⟩ := yy
        -- a new place, perhaps
        refine ⟨fun σ H12 => ∃ (e : Addr) (p : Pl), σ = [some (.ref sa), some (.ref pa), some (.int ((i : Nat) : Int)), some (.ref u), some (.ref d), some (.ref a), some (.ref pl), some (.ref t), some (.ref fi), some (.ref e), some (.int ((j : Nat) : Int)), y11, y12] ∧
            LawAt P w K H12 pa sa ns u a d pl fi sd f0 f1 t e p, ?_, ?_⟩
        · refine ⟨.ref pa, rfl, pa, sa, ns, 2, rfl, L.pen, by decide, by decide, fun r3 H12 g0 g1 o12 pen12 => ⟨rfl, _, rfl, ite2 (fun z => ?_) (fun z => ?_)⟩⟩
          · have L12 := L.off o12 pen12
            obtain ⟨pxs, hpx, rpx⟩ := id L12.hpl
            have lpx : pxs.length = (pls sd).length := by rw [rpx.length, List.length_map]
            refine ⟨.ref pl, rfl, .ref pa, rfl, .ref pl, rfl, pl, pxs, rfl, .inl (.inl (.inl hpx)), pa, sa, ns, (pxs.length : Nat), rfl, L12.pen, by rw [lpx]; have := pls_pos ws; omega, by rw [lpx]; omega, fun r4 H13 k0 k1 o13 pen13 => ?_⟩
            have L13 := L12.off o13 pen13
            obtain ⟨xs13, e2, p2, hx13, at13, he13, okp2⟩ := pick_pl L13.hpl k0 (by rw [← lpx]; exact k1)
            refine ⟨pl, xs13, r4, .ref e2, rfl, rfl, .inl (.inl hx13), at13, ?_⟩
            exact ⟨e2, p2, rfl, ⟨L13.pen, L13.fd, L13.ha, L13.hpl, L13.hfi, L13.kd, L13.bd, L13.b0, L13.ht, he13, okp2, L13.n1, L13.n2, L13.n3⟩⟩
          · exact ⟨e, p, rfl, L.off o12 pen12⟩
        · rintro σ H12 ⟨e, p, rfl, L12⟩
          -- number
          refine ⟨.ref pa, rfl, pa, sa, ns, rfl, L12.pen, fun n0 H13 b1 b2 o13 pen13 => ?_⟩
          have L13 := L12.off o13 pen13
          refine ⟨.ref d, rfl, .ref e, rfl, L13.kd.ix L13.he L13.okp ⟨small_le (by show 2 ≤ _; decide), fun nl nnl => ?_⟩⟩
          have snl := same_new (o := .lst [V.int n0, V.int (f1 p)]) nnl
          have L14 := L13.same snl
          have nnl' := L13.pen.ne nnl
          refine ⟨.ref pa, rfl, pa, sa, ns, 5, rfl, L14.pen, by decide, by decide, fun r5 H15 _ _ o15 pen15 => ⟨rfl, .inr ⟨_, rfl, ?_⟩⟩⟩
          have L15 := L14.off o15 pen15
          have hnl15 := o15 _ _ nnl' (show upd H13 nl (.lst [V.int n0, V.int (f1 p)]) nl = some (.lst [V.int n0, V.int (f1 p)]) from upd_same)
          have pkn : ∃ n : Int, atI [V.int n0, V.int (f1 p)] (if decide (V.int r5 = V.int 0) = true then 1 else 0) = some (.int n) ∧ -BIG ≤ n ∧ n ≤ BIG := by
            have bp := L15.bd p (mem_pls.mpr L15.okp)
            by_cases z : decide (V.int r5 = V.int 0) = true
            · rw [if_pos z]; exact ⟨f1 p, rfl, bp.1, bp.2⟩
            · rw [if_neg z]; exact ⟨n0, rfl, b1, b2⟩
          obtain ⟨n, atn, n1, n2⟩ := pkn
          refine ⟨nl, _, _, .int n, rfl, rfl, .inl (.inl hnl15), atn, ?_⟩
          -- former
          refine ⟨.ref d, rfl, .ref e, rfl, L15.kd.ix L15.he L15.okp ?_⟩
          -- the step
          refine ⟨.ref pa, rfl, .ref a, rfl, .ref t, rfl, .ref d, rfl, .ref e, rfl, .int n, rfl, pa, sa, a, t, d, e, ns, sd, f1, p, n, rfl, L15.pen, L15.ha, L15.ht, L15.n3, L15.kd, L15.he, L15.okp, ws, L15.bd, n1, n2, fun t2 H16 o16 pen16 ft2 lt2 => ?_⟩
          have L16 := L15.off o16 pen16
          have nt2 := L15.pen.ne ft2
          refine ⟨.ref t2, rfl, rfl, _, rfl, iteF ?_⟩
          -- the first turn's check
          refine ⟨fun σ H17 => σ = [some (.ref sa), some (.ref pa), some (.int ((i : Nat) : Int)), some (.ref u), some (.ref d), some (.ref a), some (.ref pl), some (.ref t2), some (.ref fi), some (.ref e), some (.int ((j : Nat) : Int)), some (.int n), some (.int (f1 p))] ∧ Same H16 H17, ?_, ?_⟩
          · refine ⟨_, rfl, rfl, _, rfl, ite2 (fun z => ?_) (fun z => ?_)⟩
            · have ej : j = 0 := by
                have := V.int.inj (of_decide_eq_true z)
                omega
              have ef := hj0 ej
              subst ef
              obtain ⟨tw, htw, rtw⟩ := id lt2
              refine ⟨.ref a, rfl, .ref t2, rfl, t2, tw, rfl, .inl (.inl (.inl htw)), fun cl ncl => ?_⟩
              have scl := same_new (o := .lst tw) ncl
              refine ⟨.ref e, rfl, .int (f1 p), rfl, a, cl, e, sd, chg f1 p n, p, f1 p, rfl, L16.ha.tu (Same.tu scl), ⟨tw, upd_same, rtw.mono (Same.tu scl)⟩, L16.he.tu (Same.tu scl), L16.okp, ws, fun to ua va H17 s17 hto hua hva _ lu _ => ?_⟩
              rw [chg_back] at lu
              have s1617 := scl.trans s17
              obtain ⟨uv, huv, ruv⟩ := lu
              obtain ⟨fv, hfv, rfv⟩ := L16.hfi.same s1617
              have dd : NestedKey.depthAll (tab sd f1) + 1 ≤ 64 := by
                have : NestedKey.depthAll (tab sd f1) ≤ 3 := depthAll_le fun k hk => by
                  obtain ⟨b, hb, rfl⟩ := List.mem_map.mp hk
                  have := (tab_data ws L16.b0 hb).2.2
                  rw [depth_data] at this
                  exact this
                omega
              refine ⟨to, _, 0, _, rfl, rfl, .inl (.inl hto), rfl, .ref fi, rfl, .inl (tab sd f1), .inl (tab sd f1), .lst (.inl (.inl huv)) ruv, .lst (.inl (.inl hfv)) rfv, dd, dd, _, rfl, ?_⟩
              rw [decide_eq_true rfl]
              exact iteF ⟨rfl, s1617⟩
            · exact iteF ⟨rfl, Same.refl _⟩
          · rintro σ H17 ⟨rfl, s17⟩
            have L17 := L16.same s17
            have lt17 := lt2.same s17
            -- known[place] = number
            refine ⟨.int n, rfl, .ref d, rfl, .ref e, rfl, L17.kd.put L17.he L17.okp ws fun H18 o18 tu18 kd18 => ?_⟩
            obtain ⟨φ, hφ⟩ := L17.kd.at
            have neq : ∀ {x : Addr} {ks : List NestedKey}, Ls H17 x ks → ¬ isA d x := fun l z => by
              obtain ⟨xs, hx, _⟩ := l
              exact ne_of hx hφ (by intro z; cases z) z
            have pen18 : PenAt K H18 pa sa ns := by
              obtain ⟨⟨ax, gx, p1, p2, p3⟩, p4, p5⟩ := L17.pen
              have hpd : pa ≠ d := ne_of p1 hφ (by intro z; cases z)
              refine ⟨⟨ax, gx, o18 _ _ hpd p1, p2, p3⟩, seq_off p4 o18 (fun x z => ?_), p5⟩
              subst z
              rcases p4 with (h | ⟨ob, h⟩) | h
              · exact .inl (ne_of h hφ (by intro z; cases z))
              · exact .inl (ne_of h hφ (by intro z; cases z))
              · exact .inr fun _ => .inr h
            refine ⟨chg f1 p n, t2, e, p, _, _, _, rfl, ⟨pen18, L17.fd.tu tu18, L17.ha.tu tu18, L17.hpl.off o18 tu18 (neq L17.hpl), L17.hfi.off o18 tu18 (neq L17.hfi), kd18, L17.bd.chg n1 n2, L17.b0, lt17.off o18 tu18 (neq lt17), L17.he.tu tu18, L17.okp, L17.n1, L17.n2, nt2⟩, fun z => by omega⟩
      · obtain ⟨f1, t, e, p, y10, y11, y12, rfl, L, _⟩ := h
        refine ⟨.ref fi, rfl, .ref u, rfl, u, sd, f0, rfl, L.fd, fun hh H11 s11 fh lh => ?_⟩
        refine ⟨fi, hh, _, rfl, (L.hfi.same s11).dp, lh.dp, table_nice ws L.b0, true, rfl, iteF ?_⟩
        exact ⟨L.pen.same s11, _, _, _, _, _, _, _, _, _, _, _, rfl⟩
    · exact q H1
end Bx

set_option Elab.async false
set_option linter.all false
set_option maxRecDepth 100000
set_option maxHeartbeats 1000000
/-! What the top leaves; the end. -/
namespace Bx
open PySem PySem.Spec PyProof.Rows L2
section
variable {K : PySem.W.Frag} {h : Heap} {mg : Str → Option Value}
theorem df_mk {x : Str} {st : Stmt} {ps : List Str} {f : Addr} {oc : Value} {od an : Option Addr} {osl : Array (Option Value)} {kV doc pm cdv ct : Value} (kh : K.In h) (G : h.Ns mainGlobals mg)
    (a : PySem.W.nsIn K mainGlobals x = some (some (.ref f)))
    (l : K.lookup f = some ⟨oc, od, .func (PySem.W.fnOf x x (defArgs st) (defBody st) (defScope st) .none kV doc pm an cdv ct), osl⟩)
    (c : PySem.W.codeIn K cdv x = true) (k : PySem.W.keepIn K (.ref f) = true)
    (b : ∀ (kV doc pm : Value) (an : Option Addr) (cdv ct : Value) (us : List Value), us.length = ps.length → bindArgs (PySem.W.fnOf x x (defArgs st) (defBody st) (defScope st) .none kV doc pm an cdv ct) ⟨us, []⟩ = pure (ps.zip us)) : Df K mg x st ps :=
  ⟨f, _, fun_mk l c k, PySem.W.mg_of kh G a, (fun_mk l c k).binds b⟩
theorem end_mk {l : PySem.W.OpenLaw} {w : World} {fa f : Addr} {oc : Value} {od an : Option Addr} {osl : Array (Option Value)} {kV doc pm cdv ct : Value} (kh : K.In h) (G : h.Ns mainGlobals mg) (hfa : mg "law" = some (.ref fa)) (T : Tx K mg)
    (a : PySem.W.nsIn K mainGlobals "law" = some (some (.ref f)))
    (lk : K.lookup f = some ⟨oc, od, .func (PySem.W.fnOf "law" "law" (defArgs s_law) (defBody s_law) (defScope s_law) .none kV doc pm an cdv ct), osl⟩)
    (c : PySem.W.codeIn K cdv "law" = true) (k : PySem.W.keepIn K (.ref f) = true) :
    ∃ fd : FuncData, (∀ (s : Shared) (u : Value), BindsTo s fd ⟨[u], []⟩ [("_law_script", u)]) ∧ ∀ base : Heap, K.In base → base.Ns mainGlobals mg → FnG l.prog w K mg base 6 fa fd ["_law_script"] (sp_law K) := by
  cases hfa.symm.trans (PySem.W.mg_of kh G a)
  exact ⟨_, fun s u => .of_eq rfl, fun base _ _ => fn_law T (fun_mk lk c k)⟩
theorem bi_is_whole : ∀ (kV doc pm : Value) (an : Option Addr) (cdv ct : Value) (us : List Value), us.length = (["thing"] : List Str).length → bindArgs (PySem.W.fnOf "is_whole" "is_whole" (defArgs s_is_whole) (defBody s_is_whole) (defScope s_is_whole) .none kV doc pm an cdv ct) ⟨us, []⟩ = pure ((["thing"] : List Str).zip us) :=
  fun _ _ _ _ _ _ us hl => match us, hl with | [_], _ => rfl
theorem bi_is_place : ∀ (kV doc pm : Value) (an : Option Addr) (cdv ct : Value) (us : List Value), us.length = (["sides", "thing"] : List Str).length → bindArgs (PySem.W.fnOf "is_place" "is_place" (defArgs s_is_place) (defBody s_is_place) (defScope s_is_place) .none kV doc pm an cdv ct) ⟨us, []⟩ = pure ((["sides", "thing"] : List Str).zip us) :=
  fun _ _ _ _ _ _ us hl => match us, hl with | [_, _], _ => rfl
theorem bi_is_box : ∀ (kV doc pm : Value) (an : Option Addr) (cdv ct : Value) (us : List Value), us.length = (["sides", "thing"] : List Str).length → bindArgs (PySem.W.fnOf "is_box" "is_box" (defArgs s_is_box) (defBody s_is_box) (defScope s_is_box) .none kV doc pm an cdv ct) ⟨us, []⟩ = pure ((["sides", "thing"] : List Str).zip us) :=
  fun _ _ _ _ _ _ us hl => match us, hl with | [_, _], _ => rfl
theorem bi_number_of : ∀ (kV doc pm : Value) (an : Option Addr) (cdv ct : Value) (us : List Value), us.length = (["sides", "place"] : List Str).length → bindArgs (PySem.W.fnOf "number_of" "number_of" (defArgs s_number_of) (defBody s_number_of) (defScope s_number_of) .none kV doc pm an cdv ct) ⟨us, []⟩ = pure ((["sides", "place"] : List Str).zip us) :=
  fun _ _ _ _ _ _ us hl => match us, hl with | [_, _], _ => rfl
theorem bi_cell_at : ∀ (kV doc pm : Value) (an : Option Addr) (cdv ct : Value) (us : List Value), us.length = (["field", "place"] : List Str).length → bindArgs (PySem.W.fnOf "cell_at" "cell_at" (defArgs s_cell_at) (defBody s_cell_at) (defScope s_cell_at) .none kV doc pm an cdv ct) ⟨us, []⟩ = pure ((["field", "place"] : List Str).zip us) :=
  fun _ _ _ _ _ _ us hl => match us, hl with | [_, _], _ => rfl
theorem bi_places_between : ∀ (kV doc pm : Value) (an : Option Addr) (cdv ct : Value) (us : List Value), us.length = (["low", "high"] : List Str).length → bindArgs (PySem.W.fnOf "places_between" "places_between" (defArgs s_places_between) (defBody s_places_between) (defScope s_places_between) .none kV doc pm an cdv ct) ⟨us, []⟩ = pure ((["low", "high"] : List Str).zip us) :=
  fun _ _ _ _ _ _ us hl => match us, hl with | [_, _], _ => rfl
theorem bi_halved : ∀ (kV doc pm : Value) (an : Option Addr) (cdv ct : Value) (us : List Value), us.length = (["low", "high"] : List Str).length → bindArgs (PySem.W.fnOf "halved" "halved" (defArgs s_halved) (defBody s_halved) (defScope s_halved) .none kV doc pm an cdv ct) ⟨us, []⟩ = pure ((["low", "high"] : List Str).zip us) :=
  fun _ _ _ _ _ _ us hl => match us, hl with | [_, _], _ => rfl
theorem bi_stretches : ∀ (kV doc pm : Value) (an : Option Addr) (cdv ct : Value) (us : List Value), us.length = (["side"] : List Str).length → bindArgs (PySem.W.fnOf "stretches" "stretches" (defArgs s_stretches) (defBody s_stretches) (defScope s_stretches) .none kV doc pm an cdv ct) ⟨us, []⟩ = pure ((["side"] : List Str).zip us) :=
  fun _ _ _ _ _ _ us hl => match us, hl with | [_], _ => rfl
theorem bi_cover : ∀ (kV doc pm : Value) (an : Option Addr) (cdv ct : Value) (us : List Value), us.length = (["side", "low", "high"] : List Str).length → bindArgs (PySem.W.fnOf "cover" "cover" (defArgs s_cover) (defBody s_cover) (defScope s_cover) .none kV doc pm an cdv ct) ⟨us, []⟩ = pure ((["side", "low", "high"] : List Str).zip us) :=
  fun _ _ _ _ _ _ us hl => match us, hl with | [_, _, _], _ => rfl
theorem bi_cells_in : ∀ (kV doc pm : Value) (an : Option Addr) (cdv ct : Value) (us : List Value), us.length = (["field", "box"] : List Str).length → bindArgs (PySem.W.fnOf "cells_in" "cells_in" (defArgs s_cells_in) (defBody s_cells_in) (defScope s_cells_in) .none kV doc pm an cdv ct) ⟨us, []⟩ = pure ((["field", "box"] : List Str).zip us) :=
  fun _ _ _ _ _ _ us hl => match us, hl with | [_, _], _ => rfl
theorem bi_products : ∀ (kV doc pm : Value) (an : Option Addr) (cdv ct : Value) (us : List Value), us.length = (["rows"] : List Str).length → bindArgs (PySem.W.fnOf "products" "products" (defArgs s_products) (defBody s_products) (defScope s_products) .none kV doc pm an cdv ct) ⟨us, []⟩ = pure ((["rows"] : List Str).zip us) :=
  fun _ _ _ _ _ _ us hl => match us, hl with | [_], _ => rfl
theorem bi_half_boxes : ∀ (kV doc pm : Value) (an : Option Addr) (cdv ct : Value) (us : List Value), us.length = (["sides"] : List Str).length → bindArgs (PySem.W.fnOf "half_boxes" "half_boxes" (defArgs s_half_boxes) (defBody s_half_boxes) (defScope s_half_boxes) .none kV doc pm an cdv ct) ⟨us, []⟩ = pure ((["sides"] : List Str).zip us) :=
  fun _ _ _ _ _ _ us hl => match us, hl with | [_], _ => rfl
theorem bi_told_of : ∀ (kV doc pm : Value) (an : Option Addr) (cdv ct : Value) (us : List Value), us.length = (["numbers"] : List Str).length → bindArgs (PySem.W.fnOf "told_of" "told_of" (defArgs s_told_of) (defBody s_told_of) (defScope s_told_of) .none kV doc pm an cdv ct) ⟨us, []⟩ = pure ((["numbers"] : List Str).zip us) :=
  fun _ _ _ _ _ _ us hl => match us, hl with | [_], _ => rfl
theorem bi_halves_of : ∀ (kV doc pm : Value) (an : Option Addr) (cdv ct : Value) (us : List Value), us.length = (["field"] : List Str).length → bindArgs (PySem.W.fnOf "halves_of" "halves_of" (defArgs s_halves_of) (defBody s_halves_of) (defScope s_halves_of) .none kV doc pm an cdv ct) ⟨us, []⟩ = pure ((["field"] : List Str).zip us) :=
  fun _ _ _ _ _ _ us hl => match us, hl with | [_], _ => rfl
theorem bi_parts_of : ∀ (kV doc pm : Value) (an : Option Addr) (cdv ct : Value) (us : List Value), us.length = (["box", "way"] : List Str).length → bindArgs (PySem.W.fnOf "parts_of" "parts_of" (defArgs s_parts_of) (defBody s_parts_of) (defScope s_parts_of) .none kV doc pm an cdv ct) ⟨us, []⟩ = pure ((["box", "way"] : List Str).zip us) :=
  fun _ _ _ _ _ _ us hl => match us, hl with | [_, _], _ => rfl
theorem bi_joined : ∀ (kV doc pm : Value) (an : Option Addr) (cdv ct : Value) (us : List Value), us.length = (["one", "other"] : List Str).length → bindArgs (PySem.W.fnOf "joined" "joined" (defArgs s_joined) (defBody s_joined) (defScope s_joined) .none kV doc pm an cdv ct) ⟨us, []⟩ = pure ((["one", "other"] : List Str).zip us) :=
  fun _ _ _ _ _ _ us hl => match us, hl with | [_, _], _ => rfl
theorem bi_is_entry : ∀ (kV doc pm : Value) (an : Option Addr) (cdv ct : Value) (us : List Value), us.length = (["thing"] : List Str).length → bindArgs (PySem.W.fnOf "is_entry" "is_entry" (defArgs s_is_entry) (defBody s_is_entry) (defScope s_is_entry) .none kV doc pm an cdv ct) ⟨us, []⟩ = pure ((["thing"] : List Str).zip us) :=
  fun _ _ _ _ _ _ us hl => match us, hl with | [_], _ => rfl
theorem bi_stands_right : ∀ (kV doc pm : Value) (an : Option Addr) (cdv ct : Value) (us : List Value), us.length = (["field", "known", "box"] : List Str).length → bindArgs (PySem.W.fnOf "stands_right" "stands_right" (defArgs s_stands_right) (defBody s_stands_right) (defScope s_stands_right) .none kV doc pm an cdv ct) ⟨us, []⟩ = pure ((["field", "known", "box"] : List Str).zip us) :=
  fun _ _ _ _ _ _ us hl => match us, hl with | [_, _, _], _ => rfl
theorem bi_holds_halves : ∀ (kV doc pm : Value) (an : Option Addr) (cdv ct : Value) (us : List Value), us.length = (["field", "thing"] : List Str).length → bindArgs (PySem.W.fnOf "holds_halves" "holds_halves" (defArgs s_holds_halves) (defBody s_holds_halves) (defScope s_holds_halves) .none kV doc pm an cdv ct) ⟨us, []⟩ = pure ((["field", "thing"] : List Str).zip us) :=
  fun _ _ _ _ _ _ us hl => match us, hl with | [_, _], _ => rfl
theorem bi_box_cover : ∀ (kV doc pm : Value) (an : Option Addr) (cdv ct : Value) (us : List Value), us.length = (["sides", "box"] : List Str).length → bindArgs (PySem.W.fnOf "box_cover" "box_cover" (defArgs s_box_cover) (defBody s_box_cover) (defScope s_box_cover) .none kV doc pm an cdv ct) ⟨us, []⟩ = pure ((["sides", "box"] : List Str).zip us) :=
  fun _ _ _ _ _ _ us hl => match us, hl with | [_, _], _ => rfl
theorem bi_by_halves : ∀ (kV doc pm : Value) (an : Option Addr) (cdv ct : Value) (us : List Value), us.length = (["sides", "table", "box"] : List Str).length → bindArgs (PySem.W.fnOf "by_halves" "by_halves" (defArgs s_by_halves) (defBody s_by_halves) (defScope s_by_halves) .none kV doc pm an cdv ct) ⟨us, []⟩ = pure ((["sides", "table", "box"] : List Str).zip us) :=
  fun _ _ _ _ _ _ us hl => match us, hl with | [_, _, _], _ => rfl
theorem bi_has_place : ∀ (kV doc pm : Value) (an : Option Addr) (cdv ct : Value) (us : List Value), us.length = (["box", "place"] : List Str).length → bindArgs (PySem.W.fnOf "has_place" "has_place" (defArgs s_has_place) (defBody s_has_place) (defScope s_has_place) .none kV doc pm an cdv ct) ⟨us, []⟩ = pure ((["box", "place"] : List Str).zip us) :=
  fun _ _ _ _ _ _ us hl => match us, hl with | [_, _], _ => rfl
theorem bi_put_together : ∀ (kV doc pm : Value) (an : Option Addr) (cdv ct : Value) (us : List Value), us.length = (["known", "box"] : List Str).length → bindArgs (PySem.W.fnOf "put_together" "put_together" (defArgs s_put_together) (defBody s_put_together) (defScope s_put_together) .none kV doc pm an cdv ct) ⟨us, []⟩ = pure ((["known", "box"] : List Str).zip us) :=
  fun _ _ _ _ _ _ us hl => match us, hl with | [_, _], _ => rfl
theorem bi_cells_many : ∀ (kV doc pm : Value) (an : Option Addr) (cdv ct : Value) (us : List Value), us.length = (["box"] : List Str).length → bindArgs (PySem.W.fnOf "cells_many" "cells_many" (defArgs s_cells_many) (defBody s_cells_many) (defScope s_cells_many) .none kV doc pm an cdv ct) ⟨us, []⟩ = pure ((["box"] : List Str).zip us) :=
  fun _ _ _ _ _ _ us hl => match us, hl with | [_], _ => rfl
theorem bi_changed_halves : ∀ (kV doc pm : Value) (an : Option Addr) (cdv ct : Value) (us : List Value), us.length = (["sides", "table", "place", "number"] : List Str).length → bindArgs (PySem.W.fnOf "changed_halves" "changed_halves" (defArgs s_changed_halves) (defBody s_changed_halves) (defScope s_changed_halves) .none kV doc pm an cdv ct) ⟨us, []⟩ = pure ((["sides", "table", "place", "number"] : List Str).zip us) :=
  fun _ _ _ _ _ _ us hl => match us, hl with | [_, _, _, _], _ => rfl
theorem bi__law_pen : ∀ (kV doc pm : Value) (an : Option Addr) (cdv ct : Value) (us : List Value), us.length = (["_law_script"] : List Str).length → bindArgs (PySem.W.fnOf "_law_pen" "_law_pen" (defArgs s__law_pen) (defBody s__law_pen) (defScope s__law_pen) .none kV doc pm an cdv ct) ⟨us, []⟩ = pure ((["_law_script"] : List Str).zip us) :=
  fun _ _ _ _ _ _ us hl => match us, hl with | [_], _ => rfl
theorem bi__law_take : ∀ (kV doc pm : Value) (an : Option Addr) (cdv ct : Value) (us : List Value), us.length = (["_law_pen_here", "_law_most_here"] : List Str).length → bindArgs (PySem.W.fnOf "_law_take" "_law_take" (defArgs s__law_take) (defBody s__law_take) (defScope s__law_take) .none kV doc pm an cdv ct) ⟨us, []⟩ = pure ((["_law_pen_here", "_law_most_here"] : List Str).zip us) :=
  fun _ _ _ _ _ _ us hl => match us, hl with | [_, _], _ => rfl
theorem bi__law_number : ∀ (kV doc pm : Value) (an : Option Addr) (cdv ct : Value) (us : List Value), us.length = (["_law_pen_here"] : List Str).length → bindArgs (PySem.W.fnOf "_law_number" "_law_number" (defArgs s__law_number) (defBody s__law_number) (defScope s__law_number) .none kV doc pm an cdv ct) ⟨us, []⟩ = pure ((["_law_pen_here"] : List Str).zip us) :=
  fun _ _ _ _ _ _ us hl => match us, hl with | [_], _ => rfl
theorem bi__law_sides : ∀ (kV doc pm : Value) (an : Option Addr) (cdv ct : Value) (us : List Value), us.length = (["_law_pen_here"] : List Str).length → bindArgs (PySem.W.fnOf "_law_sides" "_law_sides" (defArgs s__law_sides) (defBody s__law_sides) (defScope s__law_sides) .none kV doc pm an cdv ct) ⟨us, []⟩ = pure ((["_law_pen_here"] : List Str).zip us) :=
  fun _ _ _ _ _ _ us hl => match us, hl with | [_], _ => rfl
theorem bi__law_places : ∀ (kV doc pm : Value) (an : Option Addr) (cdv ct : Value) (us : List Value), us.length = (["_law_sides_here"] : List Str).length → bindArgs (PySem.W.fnOf "_law_places" "_law_places" (defArgs s__law_places) (defBody s__law_places) (defScope s__law_places) .none kV doc pm an cdv ct) ⟨us, []⟩ = pure ((["_law_sides_here"] : List Str).zip us) :=
  fun _ _ _ _ _ _ us hl => match us, hl with | [_], _ => rfl
theorem bi__law_field : ∀ (kV doc pm : Value) (an : Option Addr) (cdv ct : Value) (us : List Value), us.length = (["_law_pen_here"] : List Str).length → bindArgs (PySem.W.fnOf "_law_field" "_law_field" (defArgs s__law_field) (defBody s__law_field) (defScope s__law_field) .none kV doc pm an cdv ct) ⟨us, []⟩ = pure ((["_law_pen_here"] : List Str).zip us) :=
  fun _ _ _ _ _ _ us hl => match us, hl with | [_], _ => rfl
theorem bi__law_within : ∀ (kV doc pm : Value) (an : Option Addr) (cdv ct : Value) (us : List Value), us.length = (["_law_known", "_law_low", "_law_high"] : List Str).length → bindArgs (PySem.W.fnOf "_law_within" "_law_within" (defArgs s__law_within) (defBody s__law_within) (defScope s__law_within) .none kV doc pm an cdv ct) ⟨us, []⟩ = pure ((["_law_known", "_law_low", "_law_high"] : List Str).zip us) :=
  fun _ _ _ _ _ _ us hl => match us, hl with | [_, _, _], _ => rfl
theorem bi__law_box : ∀ (kV doc pm : Value) (an : Option Addr) (cdv ct : Value) (us : List Value), us.length = (["_law_pen_here", "_law_sides_here"] : List Str).length → bindArgs (PySem.W.fnOf "_law_box" "_law_box" (defArgs s__law_box) (defBody s__law_box) (defScope s__law_box) .none kV doc pm an cdv ct) ⟨us, []⟩ = pure ((["_law_pen_here", "_law_sides_here"] : List Str).zip us) :=
  fun _ _ _ _ _ _ us hl => match us, hl with | [_, _], _ => rfl
theorem bi__law_stretches : ∀ (kV doc pm : Value) (an : Option Addr) (cdv ct : Value) (us : List Value), us.length = (["_law_side"] : List Str).length → bindArgs (PySem.W.fnOf "_law_stretches" "_law_stretches" (defArgs s__law_stretches) (defBody s__law_stretches) (defScope s__law_stretches) .none kV doc pm an cdv ct) ⟨us, []⟩ = pure ((["_law_side"] : List Str).zip us) :=
  fun _ _ _ _ _ _ us hl => match us, hl with | [_], _ => rfl
theorem bi__law_same : ∀ (kV doc pm : Value) (an : Option Addr) (cdv ct : Value) (us : List Value), us.length = (["_law_found", "_law_due_here"] : List Str).length → bindArgs (PySem.W.fnOf "_law_same" "_law_same" (defArgs s__law_same) (defBody s__law_same) (defScope s__law_same) .none kV doc pm an cdv ct) ⟨us, []⟩ = pure ((["_law_found", "_law_due_here"] : List Str).zip us) :=
  fun _ _ _ _ _ _ us hl => match us, hl with | [_, _], _ => rfl
theorem bi__law_half_boxes : ∀ (kV doc pm : Value) (an : Option Addr) (cdv ct : Value) (us : List Value), us.length = (["_law_sides_here"] : List Str).length → bindArgs (PySem.W.fnOf "_law_half_boxes" "_law_half_boxes" (defArgs s__law_half_boxes) (defBody s__law_half_boxes) (defScope s__law_half_boxes) .none kV doc pm an cdv ct) ⟨us, []⟩ = pure ((["_law_sides_here"] : List Str).zip us) :=
  fun _ _ _ _ _ _ us hl => match us, hl with | [_], _ => rfl
theorem bi__law_due : ∀ (kV doc pm : Value) (an : Option Addr) (cdv ct : Value) (us : List Value), us.length = (["_law_sides_here", "_law_known"] : List Str).length → bindArgs (PySem.W.fnOf "_law_due" "_law_due" (defArgs s__law_due) (defBody s__law_due) (defScope s__law_due) .none kV doc pm an cdv ct) ⟨us, []⟩ = pure ((["_law_sides_here", "_law_known"] : List Str).zip us) :=
  fun _ _ _ _ _ _ us hl => match us, hl with | [_, _], _ => rfl
theorem bi__law_has : ∀ (kV doc pm : Value) (an : Option Addr) (cdv ct : Value) (us : List Value), us.length = (["_law_box_here", "_law_place"] : List Str).length → bindArgs (PySem.W.fnOf "_law_has" "_law_has" (defArgs s__law_has) (defBody s__law_has) (defScope s__law_has) .none kV doc pm an cdv ct) ⟨us, []⟩ = pure ((["_law_box_here", "_law_place"] : List Str).zip us) :=
  fun _ _ _ _ _ _ us hl => match us, hl with | [_, _], _ => rfl
theorem bi__law_most : ∀ (kV doc pm : Value) (an : Option Addr) (cdv ct : Value) (us : List Value), us.length = (["_law_sides_here"] : List Str).length → bindArgs (PySem.W.fnOf "_law_most" "_law_most" (defArgs s__law_most) (defBody s__law_most) (defScope s__law_most) .none kV doc pm an cdv ct) ⟨us, []⟩ = pure ((["_law_sides_here"] : List Str).zip us) :=
  fun _ _ _ _ _ _ us hl => match us, hl with | [_], _ => rfl
theorem bi__law_answer : ∀ (kV doc pm : Value) (an : Option Addr) (cdv ct : Value) (us : List Value), us.length = (["_law_known", "_law_box_here"] : List Str).length → bindArgs (PySem.W.fnOf "_law_answer" "_law_answer" (defArgs s__law_answer) (defBody s__law_answer) (defScope s__law_answer) .none kV doc pm an cdv ct) ⟨us, []⟩ = pure ((["_law_known", "_law_box_here"] : List Str).zip us) :=
  fun _ _ _ _ _ _ us hl => match us, hl with | [_, _], _ => rfl
theorem bi__law_step : ∀ (kV doc pm : Value) (an : Option Addr) (cdv ct : Value) (us : List Value), us.length = (["_law_pen_here", "_law_sides_here", "_law_table", "_law_known", "_law_place", "_law_number_here"] : List Str).length → bindArgs (PySem.W.fnOf "_law_step" "_law_step" (defArgs s__law_step) (defBody s__law_step) (defScope s__law_step) .none kV doc pm an cdv ct) ⟨us, []⟩ = pure ((["_law_pen_here", "_law_sides_here", "_law_table", "_law_known", "_law_place", "_law_number_here"] : List Str).zip us) :=
  fun _ _ _ _ _ _ us hl => match us, hl with | [_, _, _, _, _, _], _ => rfl
theorem bi_law : ∀ (kV doc pm : Value) (an : Option Addr) (cdv ct : Value) (us : List Value), us.length = (["_law_script"] : List Str).length → bindArgs (PySem.W.fnOf "law" "law" (defArgs s_law) (defBody s_law) (defScope s_law) .none kV doc pm an cdv ct) ⟨us, []⟩ = pure ((["_law_script"] : List Str).zip us) :=
  fun _ _ _ _ _ _ us hl => match us, hl with | [_], _ => rfl
end
theorem walk {l : PySem.W.OpenLaw} {q : Program} {loose : List Str} {XP : (Str → Option Value) → Heap → Prop} {YP : World → Heap → Prop} {d : DefRec} {K : Params → PySem.W.Frag} (hn : l.most = some 63) (hdf : d.params.defaults = [])
    (hY : ∀ (w : World) (h : Heap), YP w h → (K w.params).In h)
    (F : ∀ (w : World) (mg : Str → Option Value) (fa : Addr) (h : Heap), (K w.params).In h → h.Ns mainGlobals mg → mg d.name = some (.ref fa) →
      ∃ fd : FuncData, (∀ (s : Shared) (u : Value), BindsTo s fd ⟨[u], []⟩ [("_law_script", u)]) ∧ ∀ base : Heap, (K w.params).In base → base.Ns mainGlobals mg → FnG l.prog w (K w.params) mg base 6 fa fd ["_law_script"] (sp_law (K w.params))) :
    PySem.W.WalkO q loose XP YP l.row.toRowW d [] (fun f vs => PySem.call f vs) :=
  walk_ofG (n := 63) (k := 6) (x := "_law_script") (sp := fun w => sp_law (K w.params)) hn (by decide) hdf ⟨rfl, by decide, by decide⟩ hY F fun _ _ a ns _ _ hS => ⟨a, ns, rfl, hS, fun _ => rfl⟩
end Bx


set_option Elab.async false
set_option linter.all false
open PySem PySem.W PyProof.Rows in
set_option maxRecDepth 100000 in
set_option maxHeartbeats 0 in
theorem PySem.Challenge.cw_boxsums_k18_whole_halves_changed_holds : PySem.Challenge.rw_boxsums_k18_whole_halves_changed.Holds := by
  w_on; o_law; k_head; (case hw => w_witness2)
  k_fill
  refine Bx.walk (l := PySem.Challenge.rw_boxsums_k18_whole_halves_changed) rfl rfl (fun w h Y => PySem.W.kIn_of Y) ?F
  case F =>
    intro w mg fa h KX G hmg
    refine' Bx.end_mk KX G hmg (Bx.Tx.mk (Bx.df_mk KX G ?a0 ?l0 ?c0 ?k0 Bx.bi_is_whole)
      (Bx.df_mk KX G ?a1 ?l1 ?c1 ?k1 Bx.bi_is_place)
      (Bx.df_mk KX G ?a2 ?l2 ?c2 ?k2 Bx.bi_is_box)
      (Bx.df_mk KX G ?a3 ?l3 ?c3 ?k3 Bx.bi_number_of)
      (Bx.df_mk KX G ?a4 ?l4 ?c4 ?k4 Bx.bi_cell_at)
      (Bx.df_mk KX G ?a5 ?l5 ?c5 ?k5 Bx.bi_places_between)
      (Bx.df_mk KX G ?a6 ?l6 ?c6 ?k6 Bx.bi_halved)
      (Bx.df_mk KX G ?a7 ?l7 ?c7 ?k7 Bx.bi_stretches)
      (Bx.df_mk KX G ?a8 ?l8 ?c8 ?k8 Bx.bi_cover)
      (Bx.df_mk KX G ?a9 ?l9 ?c9 ?k9 Bx.bi_cells_in)
      (Bx.df_mk KX G ?a10 ?l10 ?c10 ?k10 Bx.bi_products)
      (Bx.df_mk KX G ?a11 ?l11 ?c11 ?k11 Bx.bi_half_boxes)
      (Bx.df_mk KX G ?a12 ?l12 ?c12 ?k12 Bx.bi_told_of)
      (Bx.df_mk KX G ?a13 ?l13 ?c13 ?k13 Bx.bi_halves_of)
      (Bx.df_mk KX G ?a14 ?l14 ?c14 ?k14 Bx.bi_parts_of)
      (Bx.df_mk KX G ?a15 ?l15 ?c15 ?k15 Bx.bi_joined)
      (Bx.df_mk KX G ?a16 ?l16 ?c16 ?k16 Bx.bi_is_entry)
      (Bx.df_mk KX G ?a17 ?l17 ?c17 ?k17 Bx.bi_stands_right)
      (Bx.df_mk KX G ?a18 ?l18 ?c18 ?k18 Bx.bi_holds_halves)
      (Bx.df_mk KX G ?a19 ?l19 ?c19 ?k19 Bx.bi_box_cover)
      (Bx.df_mk KX G ?a20 ?l20 ?c20 ?k20 Bx.bi_by_halves)
      (Bx.df_mk KX G ?a21 ?l21 ?c21 ?k21 Bx.bi_has_place)
      (Bx.df_mk KX G ?a22 ?l22 ?c22 ?k22 Bx.bi_put_together)
      (Bx.df_mk KX G ?a23 ?l23 ?c23 ?k23 Bx.bi_cells_many)
      (Bx.df_mk KX G ?a24 ?l24 ?c24 ?k24 Bx.bi_changed_halves)
      (Bx.df_mk KX G ?a25 ?l25 ?c25 ?k25 Bx.bi__law_pen)
      (Bx.df_mk KX G ?a26 ?l26 ?c26 ?k26 Bx.bi__law_take)
      (Bx.df_mk KX G ?a27 ?l27 ?c27 ?k27 Bx.bi__law_number)
      (Bx.df_mk KX G ?a28 ?l28 ?c28 ?k28 Bx.bi__law_sides)
      (Bx.df_mk KX G ?a29 ?l29 ?c29 ?k29 Bx.bi__law_places)
      (Bx.df_mk KX G ?a30 ?l30 ?c30 ?k30 Bx.bi__law_field)
      (Bx.df_mk KX G ?a31 ?l31 ?c31 ?k31 Bx.bi__law_within)
      (Bx.df_mk KX G ?a32 ?l32 ?c32 ?k32 Bx.bi__law_box)
      (Bx.df_mk KX G ?a33 ?l33 ?c33 ?k33 Bx.bi__law_stretches)
      (Bx.df_mk KX G ?a34 ?l34 ?c34 ?k34 Bx.bi__law_same)
      (Bx.df_mk KX G ?a35 ?l35 ?c35 ?k35 Bx.bi__law_half_boxes)
      (Bx.df_mk KX G ?a36 ?l36 ?c36 ?k36 Bx.bi__law_due)
      (Bx.df_mk KX G ?a37 ?l37 ?c37 ?k37 Bx.bi__law_has)
      (Bx.df_mk KX G ?a38 ?l38 ?c38 ?k38 Bx.bi__law_most)
      (Bx.df_mk KX G ?a39 ?l39 ?c39 ?k39 Bx.bi__law_answer)
      (Bx.df_mk KX G ?a40 ?l40 ?c40 ?k40 Bx.bi__law_step)
      (Bx.df_mk KX G ?a41 ?l41 ?c41 ?k41 Bx.bi_law)
      (PySem.W.mg_none_of KX G ?z0)
      (PySem.W.mg_none_of KX G ?z1)
      (PySem.W.mg_none_of KX G ?z2)
      (PySem.W.mg_none_of KX G ?z3)
      (PySem.W.mg_none_of KX G ?z4)
      (PySem.W.mg_none_of KX G ?z5)
      (PySem.W.mg_none_of KX G ?z6)
      (PySem.W.mg_none_of KX G ?z7)
      (PySem.W.mg_none_of KX G ?z8)
      (PySem.W.mg_none_of KX G ?z9)
      (PySem.W.mg_none_of KX G ?z10)
      (PySem.W.mg_none_of KX G ?z11)
      (PySem.W.mg_none_of KX G ?z12)
      (PySem.W.mg_none_of KX G ?z13)
      (PySem.W.mg_none_of KX G ?z14)
      (PySem.W.mg_none_of KX G ?z15)
      (PySem.W.mg_none_of KX G ?z16)) ?al ?ll ?cl ?kl
    (case a0 => k_is)
    (case l0 => k_is)
    (case c0 => k_is)
    (case k0 => k_is)
    (case a1 => k_is)
    (case l1 => k_is)
    (case c1 => k_is)
    (case k1 => k_is)
    (case a2 => k_is)
    (case l2 => k_is)
    (case c2 => k_is)
    (case k2 => k_is)
    (case a3 => k_is)
    (case l3 => k_is)
    (case c3 => k_is)
    (case k3 => k_is)
    (case a4 => k_is)
    (case l4 => k_is)
    (case c4 => k_is)
    (case k4 => k_is)
    (case a5 => k_is)
    (case l5 => k_is)
    (case c5 => k_is)
    (case k5 => k_is)
    (case a6 => k_is)
    (case l6 => k_is)
    (case c6 => k_is)
    (case k6 => k_is)
    (case a7 => k_is)
    (case l7 => k_is)
    (case c7 => k_is)
    (case k7 => k_is)
    (case a8 => k_is)
    (case l8 => k_is)
    (case c8 => k_is)
    (case k8 => k_is)
    (case a9 => k_is)
    (case l9 => k_is)
    (case c9 => k_is)
    (case k9 => k_is)
    (case a10 => k_is)
    (case l10 => k_is)
    (case c10 => k_is)
    (case k10 => k_is)
    (case a11 => k_is)
    (case l11 => k_is)
    (case c11 => k_is)
    (case k11 => k_is)
    (case a12 => k_is)
    (case l12 => k_is)
    (case c12 => k_is)
    (case k12 => k_is)
    (case a13 => k_is)
    (case l13 => k_is)
    (case c13 => k_is)
    (case k13 => k_is)
    (case a14 => k_is)
    (case l14 => k_is)
    (case c14 => k_is)
    (case k14 => k_is)
    (case a15 => k_is)
    (case l15 => k_is)
    (case c15 => k_is)
    (case k15 => k_is)
    (case a16 => k_is)
    (case l16 => k_is)
    (case c16 => k_is)
    (case k16 => k_is)
    (case a17 => k_is)
    (case l17 => k_is)
    (case c17 => k_is)
    (case k17 => k_is)
    (case a18 => k_is)
    (case l18 => k_is)
    (case c18 => k_is)
    (case k18 => k_is)
    (case a19 => k_is)
    (case l19 => k_is)
    (case c19 => k_is)
    (case k19 => k_is)
    (case a20 => k_is)
    (case l20 => k_is)
    (case c20 => k_is)
    (case k20 => k_is)
    (case a21 => k_is)
    (case l21 => k_is)
    (case c21 => k_is)
    (case k21 => k_is)
    (case a22 => k_is)
    (case l22 => k_is)
    (case c22 => k_is)
    (case k22 => k_is)
    (case a23 => k_is)
    (case l23 => k_is)
    (case c23 => k_is)
    (case k23 => k_is)
    (case a24 => k_is)
    (case l24 => k_is)
    (case c24 => k_is)
    (case k24 => k_is)
    (case a25 => k_is)
    (case l25 => k_is)
    (case c25 => k_is)
    (case k25 => k_is)
    (case a26 => k_is)
    (case l26 => k_is)
    (case c26 => k_is)
    (case k26 => k_is)
    (case a27 => k_is)
    (case l27 => k_is)
    (case c27 => k_is)
    (case k27 => k_is)
    (case a28 => k_is)
    (case l28 => k_is)
    (case c28 => k_is)
    (case k28 => k_is)
    (case a29 => k_is)
    (case l29 => k_is)
    (case c29 => k_is)
    (case k29 => k_is)
    (case a30 => k_is)
    (case l30 => k_is)
    (case c30 => k_is)
    (case k30 => k_is)
    (case a31 => k_is)
    (case l31 => k_is)
    (case c31 => k_is)
    (case k31 => k_is)
    (case a32 => k_is)
    (case l32 => k_is)
    (case c32 => k_is)
    (case k32 => k_is)
    (case a33 => k_is)
    (case l33 => k_is)
    (case c33 => k_is)
    (case k33 => k_is)
    (case a34 => k_is)
    (case l34 => k_is)
    (case c34 => k_is)
    (case k34 => k_is)
    (case a35 => k_is)
    (case l35 => k_is)
    (case c35 => k_is)
    (case k35 => k_is)
    (case a36 => k_is)
    (case l36 => k_is)
    (case c36 => k_is)
    (case k36 => k_is)
    (case a37 => k_is)
    (case l37 => k_is)
    (case c37 => k_is)
    (case k37 => k_is)
    (case a38 => k_is)
    (case l38 => k_is)
    (case c38 => k_is)
    (case k38 => k_is)
    (case a39 => k_is)
    (case l39 => k_is)
    (case c39 => k_is)
    (case k39 => k_is)
    (case a40 => k_is)
    (case l40 => k_is)
    (case c40 => k_is)
    (case k40 => k_is)
    (case a41 => k_is)
    (case l41 => k_is)
    (case c41 => k_is)
    (case k41 => k_is)
    (case z0 => k_is)
    (case z1 => k_is)
    (case z2 => k_is)
    (case z3 => k_is)
    (case z4 => k_is)
    (case z5 => k_is)
    (case z6 => k_is)
    (case z7 => k_is)
    (case z8 => k_is)
    (case z9 => k_is)
    (case z10 => k_is)
    (case z11 => k_is)
    (case z12 => k_is)
    (case z13 => k_is)
    (case z14 => k_is)
    (case z15 => k_is)
    (case z16 => k_is)
    (case al => k_is)
    (case ll => k_is)
    (case cl => k_is)
    (case kl => k_is)

