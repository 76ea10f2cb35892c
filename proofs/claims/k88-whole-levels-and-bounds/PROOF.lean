import PyProof.Rows.All
import Wide.All
import OpenK.AllK
import Wide.FinOn
import HandS.ForMost
import HandS.EndBits
import HandS.DictComp
import HandS.RaiseMore
import KE.SortData
import HandS.Conv
import KE.KDictWalk
import HandS.Iter
import KE.KDictDisplayH
import KE.KDictPairs
import KE.KDictCopyH
import KE.KDictKeyed
import HandS.SetFor
import HandS.Flow
import PySem.Challenge.RW_pupilpairs_k88_whole_levels_and_bounds
import HandS.IsInst
import HandS.Evl
import HandS.Wide
import HandS.More
import HandS.Style
import HandS.Deep
import HandS.TupLe
import HandS.TupLen
set_option Elab.async false
set_option linter.all false
set_option maxRecDepth 100000
set_option maxHeartbeats 1000000
namespace Pup
open PySem PySem.Spec PyProof.Rows L2

/-- like FnOk, for callers under whom no repr is going on -/
structure FnG (P : Program) (w : World) (K : PySem.W.Frag) (mg : Str → Option Value) (base : Heap) (k : Nat) (f : Addr) (fd : FuncData) (ps : List Str) (sp : Sp) : Prop where
  len : ∀ vs H Q E, sp vs H Q E → vs.length = ps.length
  run : ∀ (A : Around) (outer : List Env) (s : Shared) (H : Hp) (args : Args) (us : List Value) (vs : List V) (Q : VK), A.guards = some [] → Room k A → Env0 P w K mg base A outer s H →
    BindsTo s fd args (ps.zip us) → Vals vs us → sp vs H Q E0 → codeAny (model P w) A (.call (.ref f) args) (CR CX0 outer P w H s Q E0) s

theorem FnG.mono {P : Program} {w : World} {K : PySem.W.Frag} {mg : Str → Option Value} {base : Heap} {j k : Nat} {f : Addr} {fd : FuncData} {ps : List Str} {sp : Sp}
    (F : FnG P w K mg base j f fd ps sp) (h : j ≤ k) : FnG P w K mg base k f fd ps sp :=
  ⟨F.len, fun A o s H args us vs Q hg hr => F.run A o s H args us vs Q hg (hr.mono h)⟩

/-- a def's body, where the guards are known -/
theorem Fun_okG {P : Program} {w : World} {K : PySem.W.Frag} {mg : Str → Option Value} {base : Heap} {x qual : Str} {st : Stmt} {f : Addr} {fd : FuncData} {N ps : List Str} {k : Nat} {sp : Sp}
    (F : Fun K x qual st f fd) (S : FnScope N ps (defScope st)) (len : ∀ vs H Q E, sp vs H Q E → vs.length = ps.length)
    (hbody : ∀ (cdv : Value) (A : Around) (outer : List Env) (s : Shared) (H : Hp) (vs : List V) (Q : VK), A.guards = some [] →
      Room k (A.deeper (envOfC qual (defScope st) s.heap.objs.size f cdv)) → sp vs H Q E0 →
      ∃ t, PSs (cxOf CX0 P w K mg base N qual (defScope st) f cdv A outer s H E0).nox (defBody st) t ∧ t { nx := fun _ H' => Q .non H', rt := Q } (start N vs) H) :
    FnG P w K mg base (k + 1) f fd ps sp := by
  obtain ⟨oc, od, kV, doc, pm, an, cdv, ct, osl, rfl, lk, hcd⟩ := F.ex
  refine ⟨len, ?_⟩
  intro A outer s H args us vs Q hgd hr e0 hb r hsp
  have hl := len _ _ _ _ hsp
  have inK : K.In s.heap := e0.mod.kin.keeps (fun b o z => (e0.bs b o z).1)
  have noLim : s.heap.NoLimit := e0.mod.nolimit.keeps (fun b o z => (e0.bs b o z).1)
  have kinds : ∀ y ∈ ps.zip us, (defScope st).names.lookup y.1 = some .local ∨ ((defScope st).names.lookup y.1 = some .cell ∧ ((cellsFrom (s.heap.objs.size + 1) (defScope st).names []).lookup y.1).isSome = true) := by
    rintro ⟨n, v⟩ hy
    have hn := (List.of_mem_zip hy).1
    cases S.par n hn with
    | inl q => exact Or.inl q
    | inr q => exact Or.inr ⟨q, PySem.W.cellsFrom_some _ _ _ (Or.inl q)⟩
  refine codeAny_call_function hr.depth (inK _ _ lk) rfl S.co S.gen rfl (PySem.W.codeRec_of inK hcd) (hb _ _ _ _ ?_)
  refine wpAny_newFunctionEnv_cells S.kind kinds (fun env he s1 q => ?_)
  subst he
  refine ⟨noLim.keeps q.toInCall.keep, codeAny_func ?_⟩
  obtain ⟨t, ht, hq⟩ := hbody cdv A outer s H vs Q hgd (hr.deeper _) hsp
  have I0 := inv_start (CX := CX0) (E := E0) (f := f) (cd := cdv) (qual := qual) S hr.hd e0 hl r q
  refine wpAny_mono (ht.nox.run [] s1 (start N vs) H _ I0 hq) ?_ (fun e s' hs => hs)
  intro fl s' hs
  cases fl with
  | ret u =>
    obtain ⟨v, σ', H', J, rv, g⟩ := hs
    exact ⟨v, H', J.os, J.bare, J.base, J.hok, rv, g⟩
  | next =>
    obtain ⟨σ', H', J, g⟩ := hs
    exact ⟨V.non, H', J.os, J.bare, J.base, J.hok, rfl, g⟩
  | brk =>
    obtain ⟨_, _, _, g⟩ := hs
    exact g.elim
  | cont =>
    obtain ⟨_, _, _, g⟩ := hs
    exact g.elim

section
variable {X : Cx} {k : Nat} {f : Addr} {fd : FuncData} {ps : List Str} {sp : Sp} {x : Str} {p pos : Pos} {e : Expr} {es : List Expr} {t : TA}
/-- f(e, ..) of such a def -/
theorem pe_callG (hgd : X.A.guards = some []) (F : FnG X.prog X.w X.K X.mg X.base k f fd ps sp) (hr : Room k X.A) (hg : Gl X x) (hm : X.mg x = some (.ref f)) (hk : PySem.W.keepIn X.K (.ref f) = true) (hb : Binds X.K fd ps [])
    (ha : PA X (e :: es) t) (hdb : (x == ("__debug__" : Str)) = false := by decide) (he : starEach (e :: es) X.env = (false, eval e X.env) :: starEach es X.env := by rfl)
    (hpl : (backTo pos (starEach es X.env)).any (·.1) = false := by rfl) : PE X (.Call (.Name x p) (e :: es) [] pos) (tCall sp [] E0 t) := by
  constructor
  intro pins s σ H Q I h
  refine wpAny_Call_Name_kw (ld_glob I hg hm ?_ hdb)
  refine PySem.W.callWith_K (h₀ := X.base) I.ok.mod.kin hk (thn (ha.run pos pins s σ H _ I h) ?_) he hpl
  rintro us s1 ⟨vs, H1, I1, r, q⟩
  refine ⟨I1.kIn, ?_⟩
  rw [List.append_nil] at q
  have hl : us.length = ps.length := by rw [← r.length]; exact F.len _ _ _ _ q
  have hb2 := hb s1 us I1.kIn (by rw [List.append_nil]; exact hl)
  rw [List.append_nil] at hb2
  refine wpAny_call (codeAny_mono (F.run X.A X.stack s1 H1 ⟨us, []⟩ us vs Q hgd hr I1.env0 hb2 r q) ?_)
  intro r2 s2 h2
  cases r2 with
  | error _ => exact h2.elim
  | ok fl =>
    cases fl with
    | ret u => exact I1.after h2
    | next => exact h2.elim
    | brk => exact h2.elim
    | cont => exact h2.elim
end
end Pup

set_option Elab.async false
set_option linter.all false
set_option maxRecDepth 100000
set_option maxHeartbeats 1000000
namespace Pup
open PySem PySem.Spec PyProof.Rows L2

/-- the heap that tracks the script alone, unless the text's own part holds it -/
def onlyS (K : PySem.W.Frag) (a : Addr) (o : Obj) (xs : List V) : Hp := fun b => if b = a ∧ K.lookup a = none then some (.frz o (.lst xs)) else none

theorem onlyS_some {K : PySem.W.Frag} {a b : Addr} {o : Obj} {xs : List V} {u : HO} (h : onlyS K a o xs b = some u) : b = a ∧ K.lookup a = none ∧ u = .frz o (.lst xs) := by
  unfold onlyS at h
  by_cases c : b = a ∧ K.lookup a = none
  · rw [if_pos c] at h
    exact ⟨c.1, c.2, (Option.some.inj h).symm⟩
  · rw [if_neg c] at h
    cases h

theorem law_callG {P : Program} {w : World} {K : PySem.W.Frag} {mg mb : Str → Option Value} {k : Nat} {fa a : Addr} {fd : FuncData} {x : Str} {sp : Sp} {s₁ : Shared} {vs : List Value} {ns : List Int}
    (inK : K.In s₁.heap) (nsG : s₁.heap.Ns mainGlobals mg) (nsB : s₁.heap.Ns builtinsNs mb) (blt : ∀ x : Str, x ≠ "__name__" → mb x = bootBuiltins x) (noL : s₁.heap.NoLimit) (gens : s₁.gens = #[])
    (at_a : s₁.heap.get? a = some { cls := .type "list", data := .seq vs.toArray }) (hints : IntsAre vs ns) (short : ns.length ≤ sizeLine) (room : Room k callerA)
    (F : ∀ base : Heap, K.In base → base.Ns mainGlobals mg → FnG P w K mg base k fa fd [x] sp) (bind : ∀ (s : Shared) (u : Value), BindsTo s fd ⟨[u], []⟩ [(x, u)])
    (ask : ∀ H : Hp, Only H → SqL K H a (ns.map V.int) → sp [.ref a] H (fun v _ => v = .bl true) E0) :
    codeAny (model P w) callerA (.call (.ref fa) ⟨[.ref a], []⟩) (fun r s' => r = .ok (.ret (.bool true)) ∧ OldK s₁.heap s'.heap ∧ s'.os = s₁.os ∧ AllBare s'.gens) s₁ := by
  have rel := vals_ints hints
  have len := hints.length
  obtain ⟨oa, hoa⟩ : ∃ oa : Obj, oa = { cls := .type "list", data := .seq vs.toArray } := ⟨_, rfl⟩
  obtain ⟨H, hH⟩ : ∃ H, H = onlyS K a oa (ns.map V.int) := ⟨_, rfl⟩
  have some_is : ∀ {b u}, H b = some u → b = a ∧ K.lookup a = none ∧ u = .frz oa (.lst (ns.map V.int)) := fun h => onlyS_some (by rw [← hH]; exact h)
  have only : Only H := fun b => by
    cases q : H b with
    | none => exact Or.inl rfl
    | some u => exact Or.inr ⟨oa, _, by rw [(some_is q).2.2]⟩
  have seq : SqL K H a (ns.map V.int) := by
    cases q : K.lookup a with
    | none =>
      refine Or.inl (Or.inr ⟨oa, ?_⟩)
      rw [hH]
      exact if_pos ⟨rfl, q⟩
    | some o =>
      have z := inK a o q
      rw [at_a] at z
      cases z
      refine Or.inr ⟨_, vs.toArray, _, q, rfl, rfl, rfl, ?_, ?_⟩
      · rw [List.size_toArray, len]
        exact short
      · simpa using rel
  have held : HOk P w H s₁.heap := fun b u q => by
    obtain ⟨rfl, _, rfl⟩ := some_is q
    refine ⟨by rw [hoa]; exact at_a, by rw [List.length_map]; exact short, vs, _, rel, at_a⟩
  have free : ∀ {b : Addr} {o : Obj} {es : Array DictEntry} {ep : Nat}, s₁.heap.get? b = some o → o.data = .dict es ep → H b = none := fun {b o es ep} e d => by
    cases q : H b with
    | none => rfl
    | some u =>
      obtain ⟨rfl, _, _⟩ := some_is q
      rw [at_a] at e
      cases e
      cases d
  have keepNs : ∀ {b : Addr} {m : Str → Option Value}, s₁.heap.Ns b m → (hidT s₁.heap H).Ns b m := fun ⟨o, es, ep, e, d, r⟩ => ⟨o, es, ep, hidT_get e (free e d), d, r⟩
  have baseK : K.In (hidT s₁.heap H) := fun b o e => hidT_get (inK b o e) (by
    cases q : H b with
    | none => rfl
    | some u =>
      obtain ⟨rfl, z, _⟩ := some_is q
      rw [z] at e
      cases e)
  have modul : Mod K mg (hidT s₁.heap H) := by
    obtain ⟨mc, h1, h2⟩ := noL
    exact ⟨baseK, keepNs nsG, ⟨mb, keepNs nsB, blt⟩, ⟨mc, keepNs h1, h2⟩⟩
  have env0 : Env0 P w K mg (hidT s₁.heap H) callerA [] s₁ H := by
    refine ⟨rfl, modul, fun b o e => of_hidT e, Nat.le_of_eq (hidT_size _ _), trivial, fun b hb => ?_, held, .of_eq gens⟩
    exact nomatch (show b ∈ ([] : List Addr) from hb)
  refine codeAny_mono ((F _ baseK (keepNs nsG)).run callerA [] s₁ H ⟨[.ref a], []⟩ [.ref a] [.ref a] _ rfl room env0 (bind s₁ (.ref a)) (.cons rfl .nil) (ask H only seq)) ?_
  intro r s' h
  cases r with
  | error e => exact h.elim
  | ok fl =>
    cases fl with
    | next => exact h.elim
    | brk => exact h.elim
    | cont => exact h.elim
    | ret u =>
      obtain ⟨v, H', os, bare, un, hok', r', q⟩ := h
      have q' : v = .bl true := q
      subst q'
      obtain rfl : u = Value.bool true := r'
      refine ⟨rfl, OldK.of_keep fun b o e => ?_, os, bare⟩
      cases q : H b with
      | none => exact un.keep b o e q (fun z => nomatch (show b ∈ ([] : List Addr) from z)) (by simp)
      | some u =>
        obtain ⟨rfl, _, rfl⟩ := some_is q
        have z1 := (held _ _ q).1
        have z2 := (hok' _ _ (un.frzs _ _ _ q)).1
        rw [e] at z1
        cases z1
        exact z2

open PySem.W in
theorem walk_ofG {l : PySem.W.OpenLaw} {n k : Nat} {q : Program} {loose : List Str} {XP : (Str → Option Value) → Heap → Prop} {YP : World → Heap → Prop} {d : DefRec} {K : Params → PySem.W.Frag} {sp : World → Sp} {x : Str}
    (hn : l.most = some n) (hn2 : n ≤ sizeLine) (hdf : d.params.defaults = []) (hr : Room k callerA) (hY : ∀ (w : World) (h : Heap), YP w h → (K w.params).In h)
    (F : ∀ (w : World) (mg : Str → Option Value) (fa : Addr) (h : Heap), (K w.params).In h → h.Ns mainGlobals mg → mg d.name = some (.ref fa) →
      ∃ fd : FuncData, (∀ (s : Shared) (u : Value), BindsTo s fd ⟨[u], []⟩ [(x, u)]) ∧
        ∀ base : Heap, (K w.params).In base → base.Ns mainGlobals mg → FnG l.prog w (K w.params) mg base k fa fd [x] (sp w))
    (ask : ∀ (w : World) (H : Hp) (a : Addr) (ns : List Int), ns.length ≤ n → (∀ z ∈ ns, Builtin.Int.intBits z ≤ 1048576) → Only H → SqL (K w.params) H a (ns.map V.int) → sp w [.ref a] H (fun v _ => v = .bl true) E0) :
    PySem.W.WalkO q loose XP YP l.row.toRowW d [] (fun f vs => PySem.call f vs) := by
  refine Att.attach_callB hn hdf ?_
  intro w s₀ s₁ mg mb fa o pm cd doc a vs ns G Y ho hd hcd hmg hobj hints hlen hbits hg
  obtain ⟨fd, hb, hF⟩ := F w mg fa _ (hY w _ Y) G.T.g hmg
  exact law_callG (hY w _ Y) G.T.g G.T.b G.T.builtins G.T.nolimit hg hobj hints (Nat.le_trans hlen hn2) hr hF hb (fun H hO hS => ask w H a ns hlen hbits hO hS)
end Pup

set_option Elab.async false
set_option linter.all false
set_option maxRecDepth 100000
set_option maxHeartbeats 1000000
namespace Pup
open PySem PySem.Spec PyProof.Rows L2

section
variable {prog : Program} {w : World} {K : Type} [DecidableEq K] {knd : HeapKind prog w K} {A : Around} {E : Value → Shared → Prop} {s : Shared}

/-- each entry of the one has its like in the other -/
def Met (A : Around) (s : Shared) (xs ys : List (K × Addr × Value)) : Prop :=
  ∀ (i : Nat) (k : K) (p : Addr × Value), xs[i]? = some (k, p) → ∃ (j : Nat) (q : Addr × Value), ys[j]? = some (k, q) ∧ SeqAt.EqAt A s p.2 q.2 true

theorem samePairs_met {nm : String} {a b : Addr} {xs ys : List (K × Addr × Value)} {Q : Bool → Shared → Prop} (hu : knd.room A) (ha : (a == sysModules) = false) (hb : (b == sysModules) = false)
    (da : s.heap.DictOfH knd a xs) (db : s.heap.DictOfH knd b ys) (hl : xs.length = ys.length) (met : Met A s xs ys) (h : Q true s) :
    wpAny (model prog w) A (Builtin.Dict.samePairs nm a b) Q E s := by
  obtain ⟨oa, es, ep, hoa, _, hda, hea, hia, hna⟩ := da
  obtain ⟨ob, fs, fp, hob, _, hdb, heb, hib, hnb⟩ := db
  have za : es.size = xs.length := size_of_entries hea
  have zb : fs.size = ys.length := size_of_entries heb
  unfold Builtin.Dict.samePairs Builtin.Dict.showsAll
  rw [if_neg (by rw [ha]; decide), if_neg (by rw [hb]; decide)]
  refine wpAny_bind (wpAny_pure (wpAny_bind (wpAny_pure (wpAny_bind (wpAny_dictEntries hoa hda ?_)))))
  dsimp only
  refine wpAny_bind (wpAny_dictEntries hob hdb ?_)
  rw [if_neg (by rw [za, zb, hl]; simp)]
  refine wpAny_bind (wpAny_dictEpoch hoa hda (wpAny_bind ?_))
  rw [Std.Legacy.Range.forIn_eq_forIn_range']
  simp only [Std.Legacy.Range.size, Nat.sub_zero, Nat.add_sub_cancel, Nat.div_one]
  refine wpAny_forIn_list _ (fun rest r s' => s' = s ∧ r = (none, ()) ∧ ∃ i, rest = List.range' i (es.size - i) ∧ i ≤ es.size) _ ?_ ?_ _ _ ⟨rfl, rfl, 0, by simp, Nat.zero_le _⟩
  · rintro x rest r s' ⟨rfl, rfl, i, hr, hi⟩
    have lt : i < es.size := by
      apply Classical.byContradiction
      intro z
      rw [Nat.sub_eq_zero_of_le (Nat.le_of_not_lt z)] at hr
      simp at hr
    have split : es.size - i = (es.size - (i + 1)) + 1 := by omega
    rw [split, List.range'_succ] at hr
    injection hr with hx hrest
    subst hx
    have ltx : x < xs.length := by omega
    obtain ⟨⟨k, p⟩, hkp⟩ : ∃ y, xs[x]? = some y := ⟨_, List.getElem?_eq_getElem ltx⟩
    have ent : es[x]? = some (entryOfKey knd (k, p)) := by
      rw [entry_at hea x, hkp]
      rfl
    obtain ⟨j, q, hj, eqv⟩ := met x k p hkp
    have entj : fs[j]? = some (entryOfKey knd (k, q)) := by
      rw [entry_at heb j, hj]
      rfl
    refine wpAny_bind (wpAny_dictEntries hoa hda ?_)
    rw [ent]
    show wpAny _ _ (holding [Value.ref p.1, p.2] _ >>= _) _ _ _
    have isk : knd.is s'.heap k p.1 := hia (k, p) (List.mem_of_getElem? hkp)
    refine wpAny_bind (wpAny_holding (wpAny_bind (wpAny_dictFind_heap hu isk hob hdb heb hib hnb (fun no => absurd hj (no j q)) (fun j' q' hj' => ?_))))
    have ej : j' = j := idxH_unique hnb hj' hj
    subst ej
    refine wpAny_bind (wpAny_dictEntries hob hdb ?_)
    rw [entj]
    refine wpAny_holding (eqv prog w _ _ ?_)
    show wpAny _ _ (if (!true) = true then _ else _) _ _ _
    rw [if_neg (by decide)]
    refine wpAny_bind (wpAny_dictEpoch hoa hda ?_)
    rw [if_neg (by simp)]
    exact wpAny_pure ⟨rfl, rfl, x + 1, hrest, lt⟩
  · rintro r s' ⟨rfl, rfl, _⟩
    exact wpAny_pure h

theorem eq_met {a b : Addr} {xs ys : List (K × Addr × Value)} {Q : Value → Shared → Prop} (hu0 : A.units < cLine) (hu : knd.room A.in1) (ha : (a == sysModules) = false) (hb : (b == sysModules) = false)
    (da : s.heap.DictOfH knd a xs) (db : s.heap.DictOfH knd b ys) (hl : xs.length = ys.length) (met : Met A.in1 s xs ys) (h : Q (.bool true) s) :
    wpAny (model prog w) A (compareOp .Eq (.ref a) (.ref b)) Q E s := by
  refine wpAny_richCompare_same_room (op := .Eq) da.typeIs db.typeIs PySem.F.slot_dict_eq (wpAny_call_entry PySem.F.slot_dict_eq da.typeIs PySem.F.entry_dict_eq ?_ (PySem.F.args_dict_eq_2 _ _)) hu0
  show wpAny _ _ (Builtin.Dict.dictSlotArgs "__eq__" ⟨[.ref a, .ref b], []⟩ >>= _) _ _ s
  unfold Builtin.Dict.dictSlotArgs
  refine wpAny_bind (wpAny_bind (wpAny_notOrdered_dict da.typeIs ?_))
  refine wpAny_pure (wpAny_bind (wpAny_isInstance (T := "dict") db.typeIs PySem.F.sub_dict_dict ?_))
  simp only [Bool.not_true, Bool.false_eq_true, if_false]
  refine wpAny_bind (wpAny_pure (wpAny_bind (wpAny_pure ?_)))
  refine wpAny_bind (samePairs_met hu ha hb da db hl met ?_)
  exact wpAny_pure ⟨_, rfl, (fun z => Value.noConfusion z), h⟩
end

/-- a dict from tuples of ints to ints -/
def dI (m : List (List Int × Int)) : HO := .dT (m.map fun p => (p.1.map Sum.inl, V.int p.2))

theorem KT.len {H : Hp} {kvs : List (List Key × V)} {xs : List (List Key × Addr × Value)} (r : KT H kvs xs) : kvs.length = xs.length := Paired.length r
theorem KT.fwd {H : Hp} {kvs : List (List Key × V)} {xs : List (List Key × Addr × Value)} (r : KT H kvs xs) {i : Nat} {k : List Key} {v : V} (h : kvs[i]? = some (k, v)) :
    ∃ (b : Addr) (u : Value), xs[i]? = some (k, b, u) ∧ H b = some (.tup (k.map kV)) ∧ RelV v u := by
  obtain ⟨⟨k', b, u⟩, h1, h2, h3, h4⟩ := paired_get r h
  have e : k = k' := h2
  subst e
  exact ⟨b, u, h1, h3, h4⟩
theorem KT.bwd {H : Hp} {kvs : List (List Key × V)} {xs : List (List Key × Addr × Value)} (r : KT H kvs xs) {i : Nat} {k : List Key} {p : Addr × Value} (h : xs[i]? = some (k, p)) :
    ∃ v : V, kvs[i]? = some (k, v) ∧ H p.1 = some (.tup (k.map kV)) ∧ RelV v p.2 := by
  have lt : i < kvs.length := by
    rw [KT.len r]
    exact (List.getElem?_eq_some_iff.mp h).1
  obtain ⟨⟨k', v⟩, hk⟩ : ∃ y, kvs[i]? = some y := ⟨_, List.getElem?_eq_getElem lt⟩
  obtain ⟨b, u, h1, h2, h3⟩ := KT.fwd r hk
  rw [h] at h1
  cases h1
  exact ⟨v, hk, h2, h3⟩

section
variable {X : Cx}
/-- two dicts of one content are equal -/
def rEqI : R2 := fun x y H Q => ∃ a b m, x = .ref a ∧ y = .ref b ∧ H a = some (dI m) ∧ H b = some (dI m) ∧ Q (.bl true) H
theorem op_eqI (hu : X.A.units + 1 < cLine) : OpR X (compareOp .Eq) rEqI := by
  intro pins s σ H x y v u Q I rx ry h
  obtain ⟨a, b, m, rfl, rfl, ea, eb, q⟩ := h
  obtain rfl : v = Value.ref a := rx
  obtain rfl : u = Value.ref b := ry
  obtain ⟨_, ya, xs, ra, da⟩ := dt_of I.hok ea
  obtain ⟨_, yb, ys, rb, db⟩ := dt_of I.hok eb
  refine eq_met (knd := tupleKind (mixKind X.prog X.w)) (by omega) hu ya yb da db ?_ ?_ (fin_bl I q rfl)
  · rw [← KT.len ra, ← KT.len rb]
  · intro i k p hi
    obtain ⟨v, h1, h2, h3⟩ := KT.bwd ra hi
    obtain ⟨b', u, h4, _, h5⟩ := KT.fwd rb h1
    refine ⟨i, (b', u), h4, ?_⟩
    rw [List.getElem?_map] at h1
    cases hm : m[i]? with
    | none =>
      rw [hm] at h1
      cases h1
    | some z =>
      rw [hm] at h1
      cases h1
      obtain ⟨t, e1⟩ := h3
      obtain ⟨t', e2⟩ := h5
      have e1' : p.2 = .int z.2 t := e1
      have e2' : u = .int z.2 t' := e2
      show SeqAt.EqAt _ _ p.2 u true
      rw [e1', e2']
      intro prog w E Q hq
      exact wpAny_eqBool_int (by simpa using hq)
end
end Pup

set_option Elab.async false
set_option linter.all false
set_option maxRecDepth 100000
set_option maxHeartbeats 1000000
namespace Pup
open PySem PySem.Spec PyProof.Rows L2

def encL (ns : List Int) : PyData := .list (ns.map PyData.int)
def encT (ns : List Int) : PyData := .tuple (ns.map PyData.int)
def encD (m : List (List Int × Int)) : PyData := .dict (m.map fun p => (encT p.1, PyData.int p.2))
def lit (i : Int) : Prop := 0 ≤ i ∧ i < 1000

theorem lit_digits : ∀ n : Nat, n < 1000 → (Str.ofString (toString (n : Int))).length ≤ 3 := by
  have h : (List.range 1000).all (fun n => decide ((Str.ofString (toString (n : Int))).length ≤ 3)) = true := by decide +kernel
  intro n hn
  exact of_decide_eq_true (List.all_eq_true.mp h n (List.mem_range.mpr hn))
theorem lit_shown {i : Int} (h : lit i) : (PyData.shown (.int i)).length ≤ 3 := by
  obtain ⟨h0, h1⟩ := h
  have e : i = ((i.toNat : Nat) : Int) := by omega
  rw [e]
  exact lit_digits i.toNat (by omega)
theorem lit_showable {i : Int} (h : lit i) : PyData.showable (.int i) = true := by
  obtain ⟨h0, h1⟩ := h
  unfold PyData.showable
  have a : i.natAbs < 2 ^ 10 := by omega
  have b : i.natAbs.log2 < 1920 := by
    by_cases z : i.natAbs = 0
    · rw [z]
      decide
    · have := (Nat.log2_lt z).mpr a
      omega
  exact decide_eq_true b

theorem piled_le {B : Nat} : ∀ {ts : List Str}, (∀ t ∈ ts, t.length ≤ B) → piled ts ≤ ts.length * (B + 2)
  | [], _ => by simp [piled]
  | t :: r, h => by
    rw [piled_cons, List.length_cons, Nat.succ_mul]
    have h1 := h t List.mem_cons_self
    have h2 := piled_le (ts := r) (fun u hu => h u (List.mem_cons_of_mem _ hu))
    omega
theorem join_le {ts : List Str} : (Str.join ", " ts).length ≤ piled ts := by
  by_cases e : ts = []
  · subst e
    decide
  · have := join_length_add ts e
    omega
theorem shownAll_map {α : Type} (f : α → PyData) : ∀ l : List α, PyData.shownAll (l.map f) = l.map fun x => (f x).shown
  | [] => rfl
  | x :: r => by
    show PyData.shownAll (f x :: r.map f) = _
    rw [PyData.shownAll, shownAll_map f r]
    rfl
theorem shownKv_map {α : Type} (f g : α → PyData) : ∀ l : List α, PyData.shownKv (l.map fun x => (f x, g x)) = l.map fun x => (f x).shown ++ ": " ++ (g x).shown
  | [] => rfl
  | x :: r => by
    show PyData.shownKv ((f x, g x) :: r.map fun x => (f x, g x)) = _
    rw [PyData.shownKv, shownKv_map f g r]
    rfl
theorem listText_le (ts : List Str) : (listText ts).length ≤ piled ts + 2 := by
  cases ts with
  | nil => decide
  | cons t r =>
    have h := textFrom_length_pos r 1 (("[" : Str) ++ (if (0 : Nat) > 0 then ", " else "" : String) ++ t) (Nat.succ_pos 0)
    have e : ((("[" : Str) ++ (if (0 : Nat) > 0 then ", " else "" : String) ++ t)).length = 1 + t.length := by
      rw [strLen_append, strLen_append]
      rfl
    have e2 : (listText (t :: r)).length = (textFrom 1 (("[" : Str) ++ (if (0 : Nat) > 0 then ", " else "" : String) ++ t) r).length + 1 := by
      show (textFrom 0 "[" (t :: r) ++ "]").length = _
      rw [strLen_append]
      rfl
    rw [e2, h, e, piled_cons]
    omega
theorem tupleText_le (ts : List Str) : (tupleText ts).length ≤ piled ts + 3 := by
  unfold tupleText
  rw [strLen_append, strLen_append]
  have h1 := join_le (ts := ts)
  have h2 : (("(" : Str)).length = 1 := rfl
  by_cases c : (ts.length == 1) = true
  · rw [if_pos c]
    have h3 : ((",)" : String) : Str).length = 2 := rfl
    omega
  · rw [if_neg c]
    have h3 : ((")" : String) : Str).length = 1 := rfl
    omega
theorem dictText_le (ts : List Str) : (dictText ts).length ≤ piled ts + 2 := by
  unfold dictText
  rw [strLen_append, strLen_append]
  have h1 := join_le (ts := ts)
  have h2 : (("{" : Str)).length = 1 := rfl
  have h3 : ((("}" : String) : Str)).length = 1 := rfl
  omega

def OkL (ns : List Int) : Prop := ns.length ≤ 1000 ∧ ∀ i ∈ ns, lit i
def OkT (ns : List Int) : Prop := ns.length ≤ 6 ∧ ∀ i ∈ ns, lit i
def OkD (m : List (List Int × Int)) : Prop := m.length ≤ 1000 ∧ ∀ p ∈ m, OkT p.1 ∧ lit p.2

theorem shown_L {ns : List Int} (h : OkL ns) : (encL ns).shown.length ≤ sizeLine := by
  unfold encL
  rw [PyData.shown, shownAll_map]
  have h1 := listText_le (ns.map fun x => (PyData.int x).shown)
  have h2 := piled_le (B := 3) (ts := ns.map fun x => (PyData.int x).shown) (fun t ht => by
    obtain ⟨i, hi, rfl⟩ := List.mem_map.mp ht
    exact lit_shown (h.2 i hi))
  rw [List.length_map] at h2
  have h3 := h.1
  rw [sizeLine_eq]
  omega
theorem shown_T {ns : List Int} (h : OkT ns) : (encT ns).shown.length ≤ 33 := by
  unfold encT
  rw [PyData.shown, shownAll_map]
  have h1 := tupleText_le (ns.map fun x => (PyData.int x).shown)
  have h2 := piled_le (B := 3) (ts := ns.map fun x => (PyData.int x).shown) (fun t ht => by
    obtain ⟨i, hi, rfl⟩ := List.mem_map.mp ht
    exact lit_shown (h.2 i hi))
  rw [List.length_map] at h2
  have h3 := h.1
  omega
theorem shown_D {m : List (List Int × Int)} (h : OkD m) : (encD m).shown.length ≤ sizeLine := by
  unfold encD
  rw [PyData.shown, shownKv_map (fun p : List Int × Int => encT p.1) (fun p => PyData.int p.2)]
  have h1 := dictText_le (m.map fun x => (encT x.1).shown ++ ": " ++ (PyData.int x.2).shown)
  have h2 := piled_le (B := 38) (ts := m.map fun x => (encT x.1).shown ++ ": " ++ (PyData.int x.2).shown) (fun t ht => by
    obtain ⟨p, hp, rfl⟩ := List.mem_map.mp ht
    obtain ⟨a, b⟩ := h.2 p hp
    have := shown_T a
    have := lit_shown b
    rw [strLen_append, strLen_append]
    have : (((": " : String) : Str)).length = 2 := rfl
    omega)
  rw [List.length_map] at h2
  have h3 := h.1
  rw [sizeLine_eq]
  omega
theorem showableAll_map {α : Type} {f : α → PyData} : ∀ {l : List α}, (∀ x ∈ l, (f x).showable = true) → PyData.showableAll (l.map f) = true
  | [], _ => rfl
  | x :: r, h => by
    show PyData.showableAll (f x :: r.map f) = true
    rw [PyData.showableAll, h x List.mem_cons_self, showableAll_map (fun y hy => h y (List.mem_cons_of_mem _ hy))]
    rfl
theorem showable_L {ns : List Int} (h : ∀ i ∈ ns, lit i) : (encL ns).showable = true := by
  unfold encL
  rw [PyData.showable]
  exact showableAll_map fun i hi => lit_showable (h i hi)
theorem showable_T {ns : List Int} (h : ∀ i ∈ ns, lit i) : (encT ns).showable = true := by
  unfold encT
  rw [PyData.showable]
  exact showableAll_map fun i hi => lit_showable (h i hi)
theorem showableKv_map : ∀ {m : List (List Int × Int)}, (∀ p ∈ m, OkT p.1 ∧ lit p.2) → PyData.showableKv (m.map fun p => (encT p.1, PyData.int p.2)) = true
  | [], _ => rfl
  | p :: r, h => by
    show PyData.showableKv ((encT p.1, PyData.int p.2) :: r.map fun p => (encT p.1, PyData.int p.2)) = true
    obtain ⟨a, b⟩ := h p List.mem_cons_self
    rw [PyData.showableKv, showable_T a.2, lit_showable b, showableKv_map (fun y hy => h y (List.mem_cons_of_mem _ hy))]
    rfl
theorem showable_D {m : List (List Int × Int)} (h : OkD m) : (encD m).showable = true := by
  unfold encD
  rw [PyData.showable]
  exact showableKv_map h.2
theorem depthAll_int : ∀ ns : List Int, PyData.depthAll (ns.map PyData.int) = 0
  | [] => rfl
  | x :: r => by
    show PyData.depthAll (PyData.int x :: r.map PyData.int) = 0
    rw [PyData.depthAll, depthAll_int r]
    simp [PyData.depth]
theorem depth_T (ns : List Int) : (encT ns).depth = 1 := by
  unfold encT
  rw [PyData.depth, depthAll_int]
theorem depth_L (ns : List Int) : (encL ns).depth = 1 := by
  unfold encL
  rw [PyData.depth, depthAll_int]
theorem depthKv_m : ∀ m : List (List Int × Int), PyData.depthKv (m.map fun p => (encT p.1, PyData.int p.2)) ≤ 1
  | [] => by simp [PyData.depthKv]
  | p :: r => by
    show PyData.depthKv ((encT p.1, PyData.int p.2) :: r.map fun p => (encT p.1, PyData.int p.2)) ≤ 1
    have := depthKv_m r
    rw [PyData.depthKv, depth_T]
    simp only [PyData.depth]
    omega
theorem depth_D (m : List (List Int × Int)) : (encD m).depth ≤ 2 := by
  unfold encD
  rw [PyData.depth]
  have := depthKv_m m
  omega

/-! what stands in the heap reads so -/
theorem reads_ints {h : Heap} : ∀ {ns : List Int} {us : List Value}, Vals (ns.map V.int) us → ReadsAll h us (ns.map PyData.int) []
  | [], _, r => by
    cases r
    exact ReadsAll.nil
  | n :: ns, _, r => by
    have r' : Vals (V.int n :: ns.map V.int) _ := r
    cases r' with
    | cons a b =>
      obtain ⟨t, rfl⟩ := a
      exact ReadsAll.cons (as := []) (bs := []) (Reads.int n t) (reads_ints b)
section
variable {X : Cx} {pins : List (Addr × Obj)} {σ : L2.St} {H : Hp} {s : Shared}
theorem reads_T {b : Addr} {ns : List Int} (I : Inv X pins σ H s) (h : SqT X.K H b (ns.map V.int)) : Reads s.heap (.ref b) (encT ns) [] := by
  obtain ⟨its, rv, ⟨o, e1, e2, n, e3⟩, _⟩ := I.tuple h
  exact Reads.tuple e1 e2 e3 (by simpa using reads_ints rv)
theorem map_inl (ns : List Int) : (ns.map (Sum.inl : Int → Key)).map kV = ns.map V.int := by
  rw [List.map_map]
  rfl
theorem reads_keys (I : Inv X pins σ H s) : ∀ {m : List (List Int × Int)} {xs : List (List Key × Addr × Value)}, KT H (m.map fun p => (p.1.map Sum.inl, V.int p.2)) xs →
    ReadsAll s.heap (xs.map fun x => Value.ref x.2.1) (m.map fun p => encT p.1) [] ∧ ReadsAll s.heap (xs.map fun x => x.2.2) (m.map fun p => PyData.int p.2) []
  | [], _, r => by
    cases r
    exact ⟨ReadsAll.nil, ReadsAll.nil⟩
  | p :: m, _, r => by
    have r' : KT H ((p.1.map Sum.inl, V.int p.2) :: m.map fun p => (p.1.map Sum.inl, V.int p.2)) _ := r
    cases r' with
    | @cons _ x _ xs a b =>
      obtain ⟨a1, a2, t, a3⟩ := a
      obtain ⟨i1, i2⟩ := reads_keys I b
      have a2' : H x.2.1 = some (.tup (p.1.map V.int)) := by
        rw [← map_inl]
        exact a2
      refine ⟨ReadsAll.cons (as := []) (bs := []) (reads_T I (SqT.of a2')) i1, ?_⟩
      show ReadsAll s.heap (x.2.2 :: xs.map fun x => x.2.2) _ _
      rw [a3]
      exact ReadsAll.cons (as := []) (bs := []) (Reads.int p.2 t) i2
theorem reads_D {a : Addr} {m : List (List Int × Int)} (I : Inv X pins σ H s) (h : H a = some (dI m)) : Reads s.heap (.ref a) (encD m) [a] ∧ (a == sysModules) = false := by
  obtain ⟨_, ya, xs, ra, o, es, ep, e1, e2, e3, e4, _⟩ := dt_of I.hok h
  obtain ⟨k1, k2⟩ := reads_keys I ra
  refine ⟨Reads.dict (as := []) (bs := []) e1 e2.1 e3 ?_ ?_, ya⟩
  · rw [e4, List.map_map, List.map_map]
    exact k1
  · rw [e4, List.map_map, List.map_map]
    exact k2
end
section
variable {X : Cx}
def rReprI (K : PySem.W.Frag) : List V → Hp → VK → Prop := fun xs H Q => ∃ a, xs = [.ref a] ∧ ((∃ m, H a = some (dI m) ∧ OkD m ∧ Q (.str (encD m).shown) H) ∨ ∃ ns : List Int, SqL K H a (ns.map V.int) ∧ OkL ns ∧ Q (.str (encL ns).shown) H)
theorem call_reprI (hg : X.A.guards = some []) (hu : X.A.units + 64 < cLine) : CallR X (.builtin "repr") (rReprI X.K) := by
  intro pins s σ H xs us Q I r h
  obtain ⟨a, rfl, h⟩ := h
  obtain ⟨u, rfl, rx⟩ := r.one
  obtain rfl : u = Value.ref a := rx
  rcases h with ⟨m, hm, ok, q⟩ | ⟨ns, hl, ok, q⟩
  · obtain ⟨rd, ya⟩ := reads_D I hm
    refine repr_of_reads' (h₀ := s.heap) rd (showable_D ok) ?_ hg ?_ (fun _ _ e => e) ?_ (shown_D ok)
    · intro _ z
      have e : sysModules = a := by simpa using z
      rw [e] at ya
      simp at ya
    · have := depth_D m
      omega
    · intro h' u tk keep
      exact ⟨.str _, H, I.kept keep, ⟨u, rfl⟩, q⟩
  · obtain ⟨its, rv, pl, _⟩ := I.list hl
    obtain ⟨o, n, e1, e2, e3, e4⟩ := pl
    have rd : Reads s.heap (.ref a) (encL ns) [a] := Reads.list (as := []) e1 e2 e4 (by simpa using reads_ints rv)
    refine repr_of_reads' (h₀ := s.heap) rd (showable_L ok.2) ?_ hg ?_ (fun _ _ e => e) ?_ (shown_L ok)
    · intro z
      exfalso
      have : ∀ l : List Int, PyData.hasDictAll (l.map PyData.int) = false := by
        intro l
        induction l with
        | nil => rfl
        | cons x r ih =>
          show PyData.hasDictAll (PyData.int x :: r.map PyData.int) = false
          rw [PyData.hasDictAll, ih]
          rfl
      have z' : PyData.hasDictAll (ns.map PyData.int) = true := z
      rw [this] at z'
      cases z'
    · rw [depth_L]
      omega
    · intro h' u tk keep
      exact ⟨.str _, H, I.kept keep, ⟨u, rfl⟩, q⟩
end
end Pup

set_option Elab.async false
set_option linter.all false
set_option maxRecDepth 100000
set_option maxHeartbeats 1000000
namespace Pup
open PySem PySem.Spec PyProof.Rows L2

def leT (a b : List Int) : Bool := decide (a ≤ b)
/-- ascending -/
def srt (ks : List (List Int)) : List (List Int) := ks.mergeSort leT

theorem tup_le {β : Type} (x : β → List Int) : PySem.W.dataLe false (fun b => PyData.tuple ((x b).map PyData.int)) = fun p q => leT (x p) (x q) := by
  funext p q
  show (!PySem.W.dataLt (.tuple ((x q).map PyData.int)) (.tuple ((x p).map PyData.int))) = _
  rw [PySem.W.dataLt_tuple]
  show (!PySem.W.rowLt ((x q).map PyData.int) ((x p).map PyData.int)) = _
  rw [PySem.W.dataLt_ints]
  unfold leT
  by_cases h : x q < x p
  · rw [decide_eq_true h, decide_eq_false (fun r => List.not_lt.mpr r h)]
    rfl
  · rw [decide_eq_false h, decide_eq_true (List.not_lt.mp h)]
    rfl

theorem each_refs : ∀ (cs : List (Addr × List Int)), PySem.W.EachIs (fun (v : Value) (c : Addr × List Int) => v = .ref c.1) (cs.map fun c => Value.ref c.1) cs
  | [] => .nil
  | _ :: r => .cons rfl (each_refs r)
theorem refs_each : ∀ {out : List Value} {cs : List (Addr × List Int)}, PySem.W.EachIs (fun (v : Value) (c : Addr × List Int) => v = .ref c.1) out cs → out = cs.map fun c => Value.ref c.1
  | _, _, .nil => rfl
  | _, _, .cons e t => by rw [e, refs_each t]; rfl
theorem reads_tup {X : Cx} {pins : List (Addr × Obj)} {σ : L2.St} {H : Hp} {s : Shared} {b : Addr} {ns : List Int} (I : Inv X pins σ H s) (h : H b = some (.tup (ns.map V.int))) : ∃ as, Reads s.heap (.ref b) (.tuple (ns.map PyData.int)) as := by
  have all : ∀ {h : Heap} {ns : List Int} {us : List Value}, Vals (ns.map V.int) us → ReadsAll h us (ns.map PyData.int) [] := by
    intro h ns
    induction ns with
    | nil =>
      intro us r
      cases r
      exact ReadsAll.nil
    | cons n ns ih =>
      intro us r
      have r' : Vals (V.int n :: ns.map V.int) us := r
      cases r' with
      | cons a b =>
        obtain ⟨t, rfl⟩ := a
        exact ReadsAll.cons (as := []) (bs := []) (Reads.int n t) (ih b)
  obtain ⟨its, rv, ⟨o, e1, e2, n, e3⟩, _⟩ := I.tuple (X := X) (SqT.of h)
  exact ⟨_, Reads.tuple e1 e2 e3 (by simpa using all rv)⟩

/-- the keys as tuples of ints -/
def keysOf (kvs : List (List L2.Key × V)) (ks : List (List Int)) : Prop := kvs.map (·.1) = ks.map fun k => k.map Sum.inl
theorem keys_cs {H : Hp} : ∀ {kvs : List (List L2.Key × V)} {xs : List (List L2.Key × Addr × Value)} {ks : List (List Int)}, KT H kvs xs → keysOf kvs ks →
    ∃ cs : List (Addr × List Int), cs.map (·.2) = ks ∧ (∀ c ∈ cs, H c.1 = some (.tup (c.2.map V.int))) ∧ (xs.map fun x => Value.ref x.2.1) = cs.map fun c => Value.ref c.1
  | _, _, [], r, h => by
    cases r with
    | nil => exact ⟨[], rfl, (fun _ z => absurd z (by simp)), rfl⟩
    | cons a b => cases h
  | _, _, k :: ks, r, h => by
    cases r with
    | nil => cases h
    | @cons p x kvs xs a b =>
      have h' : p.1 :: kvs.map (·.1) = k.map Sum.inl :: ks.map (fun k => k.map Sum.inl) := h
      injection h' with h1 h2
      obtain ⟨cs, e1, e2, e3⟩ := keys_cs b (ks := ks) h2
      refine ⟨(x.2.1, k) :: cs, by rw [List.map_cons, e1], ?_, by rw [List.map_cons, List.map_cons, e3]⟩
      intro c hc
      rcases List.mem_cons.mp hc with rfl | hc
      · have q := a.2.1
        rw [h1, List.map_map] at q
        exact q
      · exact e2 c hc

def rSortD : List V → Hp → VK → Prop := fun vs H Q => ∃ (a : Addr) (kvs : List (List L2.Key × V)) (ks : List (List Int)), vs = [.ref a] ∧ H a = some (.dT kvs) ∧ keysOf kvs ks ∧ (∀ k ∈ ks, k ≠ []) ∧
  ∀ (p : Addr) (cs : List (Addr × List Int)), H p = none → cs.map (·.2) = srt ks → (∀ c ∈ cs, H c.1 = some (.tup (c.2.map V.int))) → Q (.ref p) (upd H p (.lst (cs.map fun c => V.ref c.1)))
theorem call_sortD {X : Cx} (hc : X.calm = true) (hu : X.A.units + 64 < cLine) : CallR X (.builtin "sorted") rSortD := by
  intro pins s σ H xs us Q I r h
  obtain ⟨a, kvs, ks, rfl, hd, hks, hne, q⟩ := h
  obtain ⟨u, rfl, rx⟩ := r.one
  obtain rfl : u = Value.ref a := rx
  obtain ⟨z, ya, ts, kt, o, es, ep, ho, hx, hdt, he, his, hn⟩ := dt_of I.hok hd
  obtain ⟨cs, c1, c2, c3⟩ := keys_cs kt hks
  have l1 : es.size = ts.length := size_of_entries he
  have l2 : kvs.length = ts.length := KT.len kt
  have l3 : cs.length = ts.length := by
    have := congrArg List.length c3
    rw [List.length_map, List.length_map] at this
    exact this.symm
  refine Calls.call_function_entry PyProof.Rows.kind_sorted PyProof.Rows.plain_sorted PyProof.Rows.entry_sorted (PyProof.Rows.args_sorted1 _) ?_
  unfold Builtin.«sorted»
  refine wpAny_bind (m := checkCount "sorted" 1 1 _) (wpAny_pure ?_)
  refine wpAny_bind (PySem.W.kdu_collect (A := X.A.in1) (kdl_raw ya hx hdt) (I.ok.hd hc) ho (by omega) ?_)
  intro h' tk acc keep its
  have ea : acc.toList = cs.map fun c => Value.ref c.1 := by
    rw [← c3]
    have hl : acc.toList.length = ts.length := by rw [Array.length_toList, its.1, l1]
    refine List.ext_getElem? fun j => ?_
    rw [List.getElem?_map]
    cases hj : acc.toList[j]? with
    | none =>
      have : acc.toList.length ≤ j := List.getElem?_eq_none_iff.mp hj
      rw [List.getElem?_eq_none (by omega)]
      rfl
    | some v =>
      obtain ⟨en, hen, hv⟩ := its.2 j v (by rw [← Array.getElem?_toList]; exact hj)
      have qe := entry_at he j
      rw [hen] at qe
      cases hb : ts[j]? with
      | none =>
        rw [hb] at qe
        cases qe
      | some b =>
        rw [hb] at qe
        cases qe
        rw [hv]
        rfl
  have I1 : Inv X pins σ H { s with heap := h', toks := tk } := I.kept keep
  rw [ea]
  have lz : (cs.map fun c => Value.ref c.1).length ≤ sizeLine := by
    rw [List.length_map]
    omega
  refine wpAny_bind (wpAny_newList ?_ lz)
  have hoL : (h'.push (PyProof.Rows.seqObj "list" (cs.map fun c => Value.ref c.1).toArray 0)).get? h'.objs.size = some (PyProof.Rows.seqObj "list" (cs.map fun c => Value.ref c.1).toArray 0) := Heap.get?_push_size _ rfl
  show wpAny _ _ _ _ _ { s with heap := h'.push (PyProof.Rows.seqObj "list" (cs.map fun c => Value.ref c.1).toArray 0), toks := tk }
  have I2 : Inv X pins σ H { s with heap := h'.push (PyProof.Rows.seqObj "list" (cs.map fun c => Value.ref c.1).toArray 0), toks := tk } := I1.kept (t' := tk) fun b u e => Heap.get?_push_of_some _ e
  refine wpAny_bind (wpAny_holding (PySem.W.list_sort_data (R := fun v (c : Addr × List Int) => v = .ref c.1) (enc := fun c => PyData.tuple (c.2.map PyData.int)) (bs := cs) hoL (each_refs cs) ?_ ?_ ?_ (by omega) ?_ ?_))
  · have : ∀ l : List (Addr × List Int), (∀ c ∈ l, c ∈ cs) → PySem.W.EachIs (fun (v : Value) (c : Addr × List Int) => ∃ as, Reads (h'.push (PyProof.Rows.seqObj "list" (cs.map fun c => Value.ref c.1).toArray 0)) v (PyData.tuple (c.2.map PyData.int)) as ∧ h'.objs.size ∉ as) (l.map fun c => Value.ref c.1) l := by
      intro l
      induction l with
      | nil => exact fun _ => .nil
      | cons c r ih =>
        intro hl
        refine .cons ?_ (ih fun x hx => hl x (List.mem_cons_of_mem _ hx))
        have hc := c2 c (hl c List.mem_cons_self)
        obtain ⟨as, rd⟩ := reads_tup I1 hc
        refine ⟨as, PyProof.Rows.Reads.keeps (fun _ _ e => Heap.get?_push_of_some _ e) rd, ?_⟩
        have all : ∀ {h : Heap} {us : List Value} {ns : List Int} {as : List Addr}, ReadsAll h us (ns.map PyData.int) as → as = [] := by
          intro h us ns
          induction ns generalizing us with
          | nil =>
            intro as r
            have r' : ReadsAll h us [] as := r
            cases r'
            rfl
          | cons n ns ih =>
            intro as r
            have r' : ReadsAll h us (PyData.int n :: ns.map PyData.int) as := r
            cases r' with
            | cons x y =>
              cases x
              rw [ih y]
              rfl
        cases rd with
        | tuple e1 e2 e3 e4 =>
          rw [all e4]
          exact fun z => nomatch z
    exact this cs fun _ h => h
  · exact PySem.W.AllAlike.of fun b b' => by
      rw [PySem.W.alike]
      exact PySem.W.alike_ints _ _
  · refine .inl fun d hd => ?_
    obtain ⟨c, hc, rfl⟩ := List.mem_map.mp hd
    have hk : c.2 ∈ ks := by
      rw [← c1]
      exact List.mem_map.mpr ⟨c, hc, rfl⟩
    have := hne _ hk
    cases hq : c.2 with
    | nil => exact absurd hq this
    | cons x y => exact ⟨_, _, rfl⟩
  · intro c hc
    show X.A.units + 1 + 1 + (PyData.tuple (c.2.map PyData.int)).depth < cLine
    rw [PyData.depth, PySem.W.depth_ints]
    omega
  · intro out lo eo
    have eout := refs_each eo
    rw [tup_le fun c : Addr × List Int => c.2] at eout
    obtain ⟨ds, hds⟩ : ∃ ds, ds = cs.mergeSort (fun p q => leT p.2 q.2) := ⟨_, rfl⟩
    rw [← hds] at eout
    have perm : ds.Perm cs := by
      rw [hds]
      exact List.mergeSort_perm _ _
    obtain ⟨e', he'⟩ := PyProof.Rows.sortedHeap_at (vs := cs.map fun c => Value.ref c.1) (out := out.toArray) hoL
    refine wpAny_pure ⟨_, rfl, .ref h'.objs.size, upd H h'.objs.size (.lst (ds.map fun c => V.ref c.1)), I1.laid (t' := tk) (fun b u e => ?_) (Nat.le_refl _)
      (show ObjOk X.prog X.w _ _ _ (.lst (ds.map fun c => V.ref c.1)) from ⟨?_, out, e', ?_, he'⟩), rfl, q _ ds (I1.hok.fresh (Nat.le_refl _)) ?_ ?_⟩
    · have hb : b < h'.objs.size := Heap.lt_size e
      rw [PyProof.Rows.sortedHeap_old (Nat.ne_of_lt hb) (by rw [size_push']; exact Nat.lt_succ_of_lt hb)]
      exact Heap.get?_push_of_some _ e
    · rw [List.length_map, perm.length_eq]
      omega
    · rw [eout]
      have := vals_refs (ds.map (·.1))
      rw [List.map_map, List.map_map] at this
      exact this
    · rw [hds, srt, ← c1]
      exact PySem.W.sort_maps (s := leT) (fun c : Addr × List Int => c.2) fun _ _ _ _ => rfl
    · intro c hc
      exact c2 c (perm.mem_iff.mp hc)
end Pup

set_option Elab.async false
set_option linter.all false
set_option maxRecDepth 100000
set_option maxHeartbeats 1000000
namespace Pup
open PySem PySem.Spec PyProof.Rows L2

/-- a locked dict with tuple keys, entry by entry -/
theorem frz_rows {X : Cx} {pins : List (Addr × Obj)} {σ : L2.St} {H : Hp} {s : Shared} {d : Addr} {o : Obj} {kvs : List (List L2.Key × V)} (I : Inv X pins σ H s) (h : H d = some (.frz o (.dT kvs))) :
    (d == sysModules) = false ∧ ∃ (es : Array DictEntry) (ep : Nat), o.data = .dict es ep ∧ s.heap.DictRaw d es ep ∧ es.size = kvs.length ∧
      ∀ (i : Nat) (hi : i < es.size), ∃ (k : List L2.Key) (v : V) (q : Addr), kvs[i]? = some (k, v) ∧ es[i].key = .ref q ∧ H q = some (.tup (k.map kV)) ∧ RelV v es[i].val := by
  obtain ⟨hd, hz, hs, xs, pr, o', es, ep, ho, hx, hdt, he, hn⟩ := I.hok d _ h
  rw [hd] at ho
  cases ho
  have l1 : es.size = xs.length := size_of_entries he
  have l2 : kvs.length = xs.length := Paired.length pr
  refine ⟨hs, es, ep, hdt, ⟨o, hd, hx, hdt⟩, by omega, fun i hi => ?_⟩
  have lt : i < kvs.length := by omega
  obtain ⟨⟨k, v⟩, hkv⟩ : ∃ y, kvs[i]? = some y := ⟨_, List.getElem?_eq_getElem lt⟩
  obtain ⟨b, u, e1, e2, e3⟩ := KT.fwd pr hkv
  have en := entry_at he i
  rw [e1, Array.getElem?_eq_getElem hi] at en
  have en' : es[i] = entryOfKey (tupleKind (mixKind X.prog X.w)) (k, b, u) := Option.some.inj en
  exact ⟨k, v, b, hkv, by rw [en'] <;> rfl, e2, by rw [en']; exact e3⟩

def ItdT (d : Addr) (o : Obj) (kvs : List (List L2.Key × V)) : It where
  go := fun i H => H d = some (.frz o (.dT kvs)) ∧ i < kvs.length
  yld := fun i H x H' => H' = H ∧ ∃ k, kvs[i]? = some (k, x)
  stop := fun i H => H d = some (.frz o (.dT kvs)) ∧ kvs.length ≤ i
def ItiT (d : Addr) (o : Obj) (kvs : List (List L2.Key × V)) : It where
  go := fun i H => H d = some (.frz o (.dT kvs)) ∧ i < kvs.length
  yld := fun i H x H' => ∃ (T q : Addr) (k : List L2.Key) (v : V), kvs[i]? = some (k, v) ∧ x = .ref T ∧ H T = none ∧ H q = some (.tup (k.map kV)) ∧ H' = upd H T (.tup [.ref q, v])
  stop := fun i H => H d = some (.frz o (.dT kvs)) ∧ kvs.length ≤ i

section
variable {P : Program} {w : World} {K : PySem.W.Frag} {tg : Expr} {d : Addr} {o : Obj} {es : Array DictEntry} {ep : Nat} {kvs : List (List L2.Key × V)}
theorem turn_vT (it : Addr) (hod : o.data = .dict es ep) (hsz : es.size = kvs.length) : Turn P w K tg (ItdT d o kvs) [it] it (fun i h => h.IsValIter it d i es.size ep) := by
  refine ⟨by simp, ?_, ?_, ?_, ?_, ?_⟩
  · intro i h st b hb
    obtain rfl : b = it := by simpa using hb
    obtain ⟨oi, e, c, dd⟩ := st
    refine ⟨oi, e, fun v z => ?_⟩
    rw [dd] at z
    cases z
  · intro i h h' st k
    exact st.at fun oi e => k it (by simp) oi e
  · intro X hP hw hK hc i pins s σ H E I hf st hg
    subst hP hw hK
    obtain ⟨f0, f1, f2, f3, f4, f5⟩ := hf it (by simp)
    obtain ⟨hs, es', ep', hd', raw, hl, rows⟩ := frz_rows I hg.1
    obtain ⟨rfl, rfl⟩ := dict_ep hod hd'
    have hi : i < es'.size := by
      rw [hl]
      exact hg.2
    obtain ⟨k, v, q, hkv, _, _, rv⟩ := rows i hi
    refine wpAny_pyNext_values_item_raw st raw hi fun h' st' sb => ?_
    have I1 : Inv X pins σ H { s with heap := h' } := I.turned (t' := s.toks) (fun b ob hb e => (sb.2 b hb).trans e) f0 f1 f3 f4 f5
    obtain ⟨oi, e, c, dd⟩ := id st'
    exact ⟨_, rfl, go_of (s := { s with heap := h' }) e c dd (by decide) ⟨v, H, I1, rv, ⟨rfl, k, hkv⟩, st', fun b hb => (hf b hb).1⟩⟩
  · intro X hP hw hK hc i pins s σ H E I hf st hg
    subst hP hw hK
    obtain ⟨f0, f1, f2, f3, f4, f5⟩ := hf it (by simp)
    obtain ⟨hs, es', ep', hd', raw, hl, rows⟩ := frz_rows I hg.1
    obtain ⟨rfl, rfl⟩ := dict_ep hod hd'
    exact wpAny_pyNext_values_end_raw (I.ok.hd hc) st raw (by rw [hl]; exact hg.2) fun h' eb => ⟨rfl, I.turned (t' := s.toks) (fun b ob hb e => eb b ob hb e) f0 f1 f3 f4 f5⟩
  · intro A i s Q E st h
    exact wpAny_pyIter_valiter st h
theorem turn_iT {elts : List Expr} {kk : Nat} {tpos : Pos} (it : Addr) (hod : o.data = .dict es ep) (hsz : es.size = kvs.length) :
    Turn P w K (.Tuple elts kk tpos) (ItiT d o kvs) [it] it (fun i h => ∃ ok ov, IsItemIter h it d i es.size ep ok ov) := by
  refine ⟨by simp, ?_, ?_, ?_, ?_, ?_⟩
  · intro i h st b hb
    obtain rfl : b = it := by simpa using hb
    obtain ⟨ok, ov, e⟩ := st
    exact ⟨_, e, fun v z => nomatch z⟩
  · intro i h h' st k
    obtain ⟨ok, ov, e⟩ := st
    exact ⟨ok, ov, k it (by simp) _ e⟩
  · intro X hP hw hK hc i pins s σ H E I hf st hg
    subst hP hw hK
    obtain ⟨hs, es', ep', hd', raw, hl, rows⟩ := frz_rows I hg.1
    obtain ⟨rfl, rfl⟩ := dict_ep hod hd'
    have hi : i < es'.size := by
      rw [hl]
      exact hg.2
    obtain ⟨k, v, q, hkv, ek, hq, rv⟩ := rows i hi
    obtain ⟨ok, ov, he⟩ := st
    have hlt : it < s.heap.objs.size := Heap.lt_size he
    refine wpAny_pyNext_items_item_raw he raw hi fun h' hout hT hz hk => ?_
    refine ⟨_, rfl, wpAny_letOwnedTupleGo_items (s := { s with heap := h' }) hout fun h'' he' sb => ?_⟩
    have hT2 : h''.get? s.heap.objs.size = some { cls := .type "tuple", data := .seq #[.ref q, es'[i].val] } := by
      rw [← ek]
      exact (sb.2 _ (Nat.ne_of_gt hlt)).trans hT
    have new : ObjOk X.prog X.w (upd H s.heap.objs.size (.tup [.ref q, v])) h'' s.heap.objs.size (.tup [.ref q, v]) :=
      ⟨by show 2 ≤ sizeLine; decide, [.ref q, es'[i].val], .cons rfl (.cons rv .nil), ⟨_, hT2, rfl, _, rfl⟩⟩
    have I1 : Inv X pins σ (upd H s.heap.objs.size (.tup [.ref q, v])) { s with heap := h'' } :=
      I.turnedNew (t' := s.toks) (ch := [it]) (fun b ob hb e => (sb.2 b (by simpa using hb)).trans (hk b ob (by simpa using hb) e)) hf (Nat.le_refl _) new
    refine ⟨.ref s.heap.objs.size, _, I1, rfl, ⟨_, q, k, v, hkv, rfl, I.hok.fresh (Nat.le_refl _), hq, rfl⟩, ⟨_, _, he'⟩, fun b hb => ?_⟩
    obtain rfl : b = it := by simpa using hb
    rw [upd_ne (Nat.ne_of_lt hlt)]
    exact (hf b (by simp)).1
  · intro X hP hw hK hc i pins s σ H E I hf st hg
    subst hP hw hK
    obtain ⟨f0, f1, f2, f3, f4, f5⟩ := hf it (by simp)
    obtain ⟨hs, es', ep', hd', raw, hl, rows⟩ := frz_rows I hg.1
    obtain ⟨rfl, rfl⟩ := dict_ep hod hd'
    obtain ⟨ok, ov, he⟩ := st
    exact wpAny_pyNext_items_end_raw (I.ok.hd hc) he raw (by rw [hl]; exact hg.2) fun h' eb => ⟨rfl, I.turned (t' := s.toks) (fun b ob hb e => eb b ob hb e) f0 f1 f3 f4 f5⟩
  · intro A i s Q E st h
    obtain ⟨_, _, e⟩ := st
    exact wpAny_pyIter_itemiter e h
end

/-- the dict is locked, or stays locked from here on -/
def iOver (td : TE) (J : Addr → Obj → List (List L2.Key × V) → It) : TI := fun σ H R => td σ H fun x H1 => ∃ (d : Addr) (kvs : List (List L2.Key × V)), x = .ref d ∧
  ((∃ o, H1 d = some (.frz o (.dT kvs)) ∧ R (J d o kvs) H1) ∨ (H1 d = some (.dT kvs) ∧ ∀ o, R (J d o kvs) (upd H1 d (.frz o (.dT kvs)))))

section
variable {X : Cx} {tg e : Expr} {td : TE} {apos cpos : Pos}
theorem over_lock {J : Addr → Obj → List (List L2.Key × V) → It} {pins : List (Addr × Obj)} {σ : L2.St} {H : Hp} {s : Shared} {d : Addr} {kvs : List (List L2.Key × V)} {R : It → Hp → Prop} (I : Inv X pins σ H s)
    (h : (∃ o, H d = some (.frz o (.dT kvs)) ∧ R (J d o kvs) H) ∨ (H d = some (.dT kvs) ∧ ∀ o, R (J d o kvs) (upd H d (.frz o (.dT kvs))))) :
    ∃ o H', Inv X pins σ H' s ∧ H' d = some (.frz o (.dT kvs)) ∧ R (J d o kvs) H' := by
  rcases h with ⟨o, h1, h2⟩ | ⟨h1, h2⟩
  · exact ⟨o, H, I, h1, h2⟩
  · obtain ⟨o, I'⟩ := I.lock h1 trivial
    exact ⟨o, _, I', upd_same, h2 o⟩
theorem raw_noDict {s : Shared} {d : Addr} {es : Array DictEntry} {ep : Nat} (x : s.heap.DictRaw d es ep) : ∀ a : Addr, Value.ref d = Value.ref a → ∃ o : Obj, s.heap.get? a = some o ∧ o.dict = none := by
  intro a ea
  cases ea
  obtain ⟨o, ho, hx, _⟩ := x
  exact ⟨o, ho, hx.2.1⟩
theorem pi_valuesT (he : PE X e td) (hbase : attributeBase e "values" X.env (eval e X.env) = eval e X.env := by rfl) (hline : (apos.endLine == cpos.line) = true := by rfl) : PI X tg (.Call (.Attribute e "values" apos) [] [] cpos) (iOver td ItdT) := by
  refine ⟨fun pins s σ H R I h => ?_⟩
  refine wpAny_Call_method (T := "dict") (id := "dict.values") hbase rfl hline F.plainAttrs_dict F.slot_dict_values F.type_dict_values (thn (he.run pins s σ H _ I h) ?_)
  rintro u s1 ⟨x, H0, I0, rx, d, kvs, rfl, q0⟩
  obtain rfl : u = Value.ref d := rx
  obtain ⟨o, H1, I1, hd, q⟩ := over_lock I0 q0
  obtain ⟨hs, es, ep, hdt, raw, hsz, _⟩ := frz_rows I1 hd
  refine ⟨raw.typeIs, raw_noDict raw, ?_⟩
  have I2 : Inv X pins σ H1 { s1 with heap := s1.heap.push { cls := .type "dict_values", data := .fields #[.ref d] } } := I1.kept (t' := s1.toks) fun b ob q => Heap.get?_push_of_some _ q
  have fin : wpAny (model X.prog X.w) X.A (pyIter (.ref s1.heap.objs.size)) (PIE X pins σ tg R) X.xe { s1 with heap := s1.heap.push { cls := .type "dict_values", data := .fields #[.ref d] } } := by
    refine wpAny_pyIter_values_raw (d := d) ⟨_, Heap.get?_push_size _ rfl, rfl, rfl⟩ (raw.at fun o e => Heap.get?_push_of_some _ e) (pi_one (tk := s1.toks) I2 _ (turn_vT _ hdt hsz) ⟨_, Heap.get?_push_size _ rfl, rfl, rfl⟩ q)
  show wpAny _ _ (callWith cpos (.builtin "dict.values") [.ref d] [] []) _ X.xe s1
  exact method_meetsIn F.slot_dict_values F.entry_dict_values rfl (PySem.evalArgs_none ⟨rfl, raw.typeIs, F.args_dict_values_1 _, _, meets_dict_values_raw d hs, ⟨es, ep, raw⟩, fin⟩)
theorem pi_itemsT {elts : List Expr} {kk : Nat} {tpos : Pos} (he : PE X e td) (hbase : attributeBase e "items" X.env (eval e X.env) = eval e X.env := by rfl) (hline : (apos.endLine == cpos.line) = true := by rfl) :
    PI X (.Tuple elts kk tpos) (.Call (.Attribute e "items" apos) [] [] cpos) (iOver td ItiT) := by
  refine ⟨fun pins s σ H R I h => ?_⟩
  refine wpAny_Call_method (T := "dict") (id := "dict.items") hbase rfl hline F.plainAttrs_dict F.slot_dict_items F.type_dict_items (thn (he.run pins s σ H _ I h) ?_)
  rintro u s1 ⟨x, H0, I0, rx, d, kvs, rfl, q0⟩
  obtain rfl : u = Value.ref d := rx
  obtain ⟨o, H1, I1, hd, q⟩ := over_lock I0 q0
  obtain ⟨hs, es, ep, hdt, raw, hsz, _⟩ := frz_rows I1 hd
  refine ⟨raw.typeIs, raw_noDict raw, ?_⟩
  have I2 : Inv X pins σ H1 { s1 with heap := s1.heap.push { cls := .type "dict_items", data := .fields #[.ref d] } } := I1.kept (t' := s1.toks) fun b ob q => Heap.get?_push_of_some _ q
  have fin : wpAny (model X.prog X.w) X.A (pyIter (.ref s1.heap.objs.size)) (PIE X pins σ (.Tuple elts kk tpos) R) X.xe { s1 with heap := s1.heap.push { cls := .type "dict_items", data := .fields #[.ref d] } } := by
    refine wpAny_pyIter_items_raw (d := d) ⟨_, Heap.get?_push_size _ rfl, rfl, rfl⟩ (raw.at fun o e => Heap.get?_push_of_some _ e) (pi_one (tk := s1.toks) I2 _ (turn_iT _ hdt hsz) ⟨.none, .none, Heap.get?_push_size _ rfl⟩ q)
  show wpAny _ _ (callWith cpos (.builtin "dict.items") [.ref d] [] []) _ X.xe s1
  exact method_meetsIn F.slot_dict_items F.entry_dict_items rfl (PySem.evalArgs_none ⟨rfl, raw.typeIs, F.args_dict_items_1 _, _, meets_dict_items_raw d hs, ⟨es, ep, raw⟩, fin⟩)
end
end Pup

set_option Elab.async false
set_option linter.all false
set_option maxRecDepth 100000
set_option maxHeartbeats 1000000
namespace Pup
open PySem PySem.Spec PyProof.Rows L2

/-- a tuple key is stored by a comprehension -/
theorem put_tuple {X : Cx} {pins : List (Addr × Obj)} {σ : L2.St} {H : Hp} {s : Shared} {E : Value → Shared → Prop} {D b : Addr} {kvs : List (List L2.Key × V)} {k : List L2.Key} {v : V} {r : Value} {Q : Unit → Shared → Prop}
    (hu : X.A.units < cLine) (I : Inv X pins σ H s) (hD : H D = some (.dT kvs)) (hb : H b = some (.tup (k.map kV))) (hz : kvs.length < sizeLine) (rv : RelV v r)
    (h : ∀ s', Inv X pins σ (upd H D (.dT (putK kvs k v))) s' → Q () s') : wpAny (model X.prog X.w) X.A (dictSet D (.ref b) r) Q E s := by
  obtain ⟨z, hd, xs, rel, dd⟩ := dt_of I.hok hD
  have hzx : xs.length ≤ sizeLine := by
    rw [← KT.len rel]
    exact z
  have hl : (putK kvs k v).length ≤ sizeLine := by
    have := length_putK kvs k v
    omega
  refine wpAny_dictSet_heap (hsz := hzx) (knd := tupleKind (mixKind X.prog X.w)) hu (key_of I.hok hb) dd (fun h' dd' hs => h _ ?_)
  obtain ⟨q, es, ep, hq, h2, h3, h4, _, h5⟩ := dd'
  refine d_write I (by rw [hD]; exact trivial) hs ⟨q, hq⟩ ⟨hl, hd, _, (rel.put k hb rv).keeps (fun c ys ec => ?_), q, es, ep, hq, h2, h3, h4, h5⟩
  rw [upd_ne (ne_of ec hD (fun w => HO.noConfusion w))]
  exact ec

/-- {k: v for target in iter}: the keys tuples, D the new dict -/
def tDcT (wi : TI) (g : TG) (tk tv : TE) (vs : List Nat) : TE := fun σ H Q => wi σ H fun J H1 => ∀ D, H1 D = none → ∃ W : Nat → Nat → Hp → Prop, (∃ m, W 0 m (upd H1 D (.dT []))) ∧ ∀ i m H, W i m H →
  (J.stop i H ∧ Q (.ref D) H) ∨ (J.go i H ∧ ∃ Nx : Hp → Prop, (∀ H', Nx H' → ∃ m', m' < m ∧ W (i + 1) m' H') ∧ ∀ x H', J.yld i H x H' → g x (wipe σ vs) H' fun σ2 H2 => wipe σ2 vs = wipe σ vs ∧
    tk σ2 H2 fun y H4 => tv σ2 H4 fun z H5 => ∃ kvs k b, y = .ref b ∧ H5 b = some (.tup (k.map kV)) ∧ H5 D = some (.dT kvs) ∧ kvs.length < sizeLine ∧ Nx (upd H5 D (.dT (putK kvs k z))))

section
variable {X : Cx}
/-- the context of the block -/
abbrev blkAt (X : Cx) (s : Shared) (H : Hp) (scope : Scope) (C : Addr) (cl : List (Str × Addr)) (fp : List Addr) : Cx := X.blk s H scope (compEnvC scope cl C X.env) fp

theorem pe_dcT {kx vx tg iter : Expr} {scope : Scope} {own : List (Str × Nat)} {pos : Pos} {wi : TI} {g : TG} {tk tv : TE} (hu : X.A.units < cLine) (hc : X.calm = true) (hN : X.N.Nodup) (hi : PI X tg iter wi) (ok : BlkOk X.N X.env.scope scope own)
    (hg : ∀ s H C cl fp, PG (blkAt X s H scope C cl fp) tg g) (hk : ∀ s H C cl fp, PE (blkAt X s H scope C cl fp) kx tk) (he : ∀ s H C cl fp, PE (blkAt X s H scope C cl fp) vx tv)
    (hs : ∀ x, foldedSetIterable iter X.env x = pure x := by intro _; rfl) : PE X (.DictComp kx vx [⟨tg, iter, [], 0⟩] scope pos) (tDcT wi g tk tv (own.map (·.2))) := by
  constructor
  intro pins s σ H Q I h
  rw [arm_eval_DictComp]
  have captured : ∀ y ∈ scope.names, y.2 = .free → ∃ c, X.env.cells.lookup y.1 = some c := by
    intro y hy e
    cases ok.free y hy e with
    | inl k => exact I.ok.has _ (Or.inl k)
    | inr k => exact I.ok.has _ (Or.inr k)
  refine wpAny_comprehension_free (use := none) rfl hs (closure_ok captured) ok.kind (fun y hy e => by rw [ok.uniq y hy, e]) (thn (hi.run pins s σ H _ I h) ?_)
  intro xv s1 hx
  refine thn hx ?_
  rintro _ s2 ⟨it, fp, tn, J, H2, rfl, I2, T, st2, f2, q⟩
  refine wpAny_newObj_type (newEnv_comp ?_)
  -- D: the new dict; s3: the state that has it
  obtain ⟨D, hD⟩ : ∃ D, D = s2.heap.objs.size := ⟨_, rfl⟩
  obtain ⟨s3, hs3⟩ : ∃ s3 : Shared, s3 = { s2 with heap := s2.heap.push { cls := .type "dict", data := .dict #[] } } := ⟨_, rfl⟩
  have heap3 : s3.heap = s2.heap.push { cls := .type "dict", data := .dict #[] } := by rw [hs3]
  have freshD : H2 D = none := I2.hok.fresh (Nat.le_of_eq hD.symm)
  obtain ⟨W, ⟨m0, w0⟩, turn⟩ := q D freshD
  obtain ⟨H3, hH3⟩ : ∃ H3, H3 = upd H2 D (.dT []) := ⟨_, rfl⟩
  have I3 : Inv X pins σ H3 s3 := by
    rw [hs3, hH3]
    refine I2.laid (t' := s2.toks) (fun b o e => Heap.get?_push_of_some _ e) (Nat.le_of_eq hD.symm) ?_
    rw [hD]
    exact dt_empty s2.heap I2.big
  have below : ∀ b ∈ fp, b < s2.heap.objs.size := fun b hb => by
    obtain ⟨o, e, _⟩ := T.obj _ _ st2 b hb
    exact Heap.lt_size e
  have f3 : ∀ b ∈ fp, FpOk X pins H3 b ∧ b < s3.heap.objs.size := by
    intro b hb
    have lt := below b hb
    have ne : b ≠ D := by
      rw [hD]
      exact Nat.ne_of_lt lt
    refine ⟨⟨?_, (f2 b hb).2⟩, ?_⟩
    · rw [hH3, upd_ne ne]
      exact (f2 b hb).1
    · rw [heap3, Heap.size_push]
      exact Nat.lt_succ_of_lt lt
  have st3 : tn 0 s3.heap := T.keep _ _ _ st2 fun b _ o e => by
    rw [heap3]
    exact Heap.get?_push_of_some _ e
  have I4 := block_start I3 ok hN f3
  rw [← hs3, ← hD]
  obtain ⟨cl, hcl⟩ : ∃ cl, cl = cellsFrom (s3.heap.objs.size + 1) scope.names (cloFrom X.env.cells scope.names []) := ⟨_, rfl⟩
  rw [← hcl] at I4
  obtain ⟨s4, hs4⟩ : ∃ s4 : Shared, s4 = { s3 with heap := pushCells (s3.heap.push { cls := .type "dict", data := .dict #[] }) scope.names } := ⟨_, rfl⟩
  rw [← hs4] at I4
  show codeAny _ _ (.compStart (.DictComp kx vx [⟨tg, iter, [], 0⟩] scope pos) 0 (.ref it) (.ref D) (compEnvC scope (cellsFrom (s3.heap.objs.size + 1) scope.names (cloFrom X.env.cells scope.names [])) s3.heap.objs.size X.env))
    (compPost (model X.prog X.w) X.A X.xe none (EP X pins σ Q) (.ref D) s3.heap.objs.size) { s3 with heap := pushCells (s3.heap.push { cls := .type "dict", data := .dict #[] }) scope.names }
  rw [← hcl, ← hs4]
  have st4 : tn 0 s4.heap := T.keep _ _ _ st3 fun b _ o e => by
    rw [hs4]
    exact pushCells_keeps _ _ _ _ (Heap.get?_push_of_some _ e)
  have inBlk : ∀ {σ' : L2.St} {H' : Hp} {s' : Shared}, Inv (blkAt X s3 H3 scope s3.heap.objs.size cl fp) [] σ' H' s' → (∀ b ∈ fp, H' b = none) → ∀ b ∈ fp, FpOk (blkAt X s3 H3 scope s3.heap.objs.size cl fp) [] H' b := by
    intro σ' H' s' J' hn b hb
    refine ⟨hn b hb, (J'.ok.exf b hb).1, J'.ok.exfs b hb, Or.inl hb, fun x c e => (J'.ok.exf b hb).2 x c e, fun p hp => ?_⟩
    exact absurd (show p ∈ ([] : List (Addr × Obj)) ++ [] from hp) (by simp)
  have loop : codeAny (model X.prog X.w) X.A (.compLoop (.DictComp kx vx [⟨tg, iter, [], 0⟩] scope pos) 0 (.ref it) (.ref D) (compEnvC scope cl s3.heap.objs.size X.env))
      (compPost (model X.prog X.w) X.A X.xe none (EP X pins σ Q) (.ref D) s3.heap.objs.size) s4 := by
    refine compLoop_anyD (fun n s' => ∃ i H', Inv (blkAt X s3 H3 scope s3.heap.objs.size cl fp) [] (wipe σ (own.map (·.2))) H' s' ∧ tn i s'.heap ∧ (∀ b ∈ fp, H' b = none) ∧ W i n H') ?_ m0
      ⟨0, H3, I4, st4, fun b hb => (f3 b hb).1.1, by rw [hH3]; exact w0⟩
    rintro n s5 ⟨i, H5, I5, st5, n5, w5⟩
    rcases turn i n H5 w5 with ⟨stop, fin⟩ | ⟨go, Nx, hNx, step⟩
    · refine thnF (T.done (blkAt X s3 H3 scope s3.heap.objs.size cl fp) rfl rfl rfl hc i [] s5 _ H5 (fun _ _ => False) I5 (inBlk I5 n5) st5 stop) ?_
      rintro r s6 ⟨rfl, I6⟩
      have I7 : Inv X pins σ H5 s6 := I3.call' (ch := fp) I6.os I6.base I6.hok I6.bare fun b hb =>
        ⟨(f3 b hb).1.2.2.2.1, (f3 b hb).1.2.1, (f3 b hb).1.2.2.2.2.1, (f3 b hb).1.2.2.2.2.2⟩
      have noC : H5 s3.heap.objs.size = none := I6.free
      obtain ⟨m, hn, _⟩ := I6.loc
      obtain ⟨g0, g1, g2, g3, g4, g5⟩ := I3.fpOk (Nat.le_refl _) noC
      exact ⟨m, hn, fun h'' sb => ⟨.ref D, H5, I7.turned (t' := s6.toks) (fun b o hb e => (sb.2 b hb).trans e) g0 g1 g3 g4 g5, rfl, fin⟩⟩
    · refine thnF (T.item (blkAt X s3 H3 scope s3.heap.objs.size cl fp) rfl rfl rfl hc i [] s5 _ H5 (fun _ _ => False) I5 (inBlk I5 n5) st5 go) ?_
      rintro r s6 ⟨u, rfl, h6⟩
      refine thnF h6 ?_
      rintro _ s7 ⟨x, H7, I7, r7, y7, st7, n7⟩
      have I7' := I7.pinned (inBlk I7 n7) (T.obj _ _ st7)
      refine thnF ((hg s3 H3 s3.heap.objs.size cl fp).run _ s7 _ H7 x u _ I7' r7 (step x H7 y7)) ?_
      rintro _ s8 ⟨σ8, H8, I8, hw8, q8⟩
      refine wpAny_pure ?_
      rw [if_pos rfl]
      refine thnF ((hk s3 H3 s3.heap.objs.size cl fp).run _ s8 σ8 H8 _ I8 q8) ?_
      rintro kv s9 ⟨y, H9, I9, r9, q9⟩
      refine thnF ((he s3 H3 s3.heap.objs.size cl fp).run _ s9 σ8 H9 _ I9 q9) ?_
      rintro vv s10 ⟨z, H10, I10, r10, kvs, k, b, rfl, hb, hD10, hz10, nx⟩
      obtain rfl : kv = Value.ref b := r9
      refine put_tuple (X := blkAt X s3 H3 scope s3.heap.objs.size cl fp) hu I10 hD10 hb hz10 r10 fun s11 I11 => ?_
      obtain ⟨m', lt, w'⟩ := hNx _ nx
      have pinned : ∀ b ∈ fp, ∀ o, s7.heap.get? b = some o → s11.heap.get? b = some o ∧ (upd H10 D (.dT (putK kvs k z))) b = none := by
        intro b hb o e
        obtain ⟨p1, p2, _⟩ := I11.pin (b, o) (List.mem_append_right _ (List.mem_append_right _ (mem_pinsAt hb e)))
        exact ⟨p1, p2⟩
      have len8 : (wipe σ (own.map (·.2))).length = σ8.length := by rw [← hw8, wipe_length]
      refine ⟨m', lt, i + 1, _, (I11.unpinned (pins := [])).weak len8 (fun j v e => ?_), T.keep _ _ _ st7 fun b hb o e => (pinned b hb o e).1, fun b hb => ?_, w'⟩
      · rw [← hw8] at e
        exact (wipe_some e).1
      · obtain ⟨o, e, _⟩ := T.obj _ _ st7 b hb
        exact (pinned b hb o e).2
  exact codeAny_compStart_dict loop (T.self X.A 0 _ _ _ st4 loop)
end
end Pup

set_option Elab.async false
set_option linter.all false
set_option maxRecDepth 100000
set_option maxHeartbeats 1000000
namespace Pup
open PySem PySem.Spec PyProof.Rows L2

theorem key_stays {P : Program} {w : World} {H : Hp} {h h' : Heap} {b : Addr} {k : List L2.Key} (ok : HOk P w H h) (e : H b = some (.tup (k.map kV))) (keep : ∀ o, h.get? b = some o → h'.get? b = some o) : (tupleKind (mixKind P w)).is h' k b := by
  obtain ⟨o, its, n, h1, h2, h3, h4⟩ := key_of ok e
  exact ⟨o, its, n, keep _ h1, h2, h3, h4⟩

/-- {k: v}, k a tuple -/
def tDisp1 (tk tv : TE) : TE := fun σ H Q => ∀ p, H p = none → tk σ (upd H p (.dT [])) fun x H1 => tv σ H1 fun y H2 =>
  H2 p = some (.dT []) ∧ ∃ (b : Addr) (k : List L2.Key), x = V.ref b ∧ H2 b = some (.tup (k.map kV)) ∧ Q (.ref p) (upd H2 p (.dT [(k, y)]))
theorem pe_disp1 {X : Cx} {pos : Pos} {ke ve : Expr} {tk tv : TE} (hu : X.A.units < cLine) (hk : PE X ke tk) (hv : PE X ve tv) : PE X (.Dict [some ke] [ve] pos) (tDisp1 tk tv) := by
  constructor
  intro pins s σ H Q I h
  have hn := I.hok.fresh (Nat.le_refl s.heap.objs.size)
  have I1 := I.laid (a := s.heap.objs.size) (o := .dT []) (h' := s.heap.push { cls := .type "dict", data := .dict #[] }) (t' := s.toks) (fun _ _ e => Heap.get?_push_of_some _ e) (Nat.le_refl _) (dt_empty s.heap I.big)
  have q0 := h _ hn
  rw [arm_eval_Dict, zip_pairTrees [some ke] [ve] X.env pos rfl rfl, dictDisplay_pairs (pairTrees [some ke] [ve] X.env pos) (fun z => by cases z) (by show 1 < 17; decide)]
  refine wpAny_bind (wpAny_standAt (wpAny_bind (wpAny_subDictH (knd := tupleKind (mixKind X.prog X.w)) hu (by show 1 ≤ 15; decide) ?_)))
  refine pairTrees_cons_walk (thn (hk.run pins _ σ _ _ I1 q0) ?_)
  rintro u s1 ⟨x, H1, I2, rx, q1⟩
  refine thn (hv.run pins s1 σ H1 _ I2 q1) ?_
  rintro u2 s2 ⟨y, H2, I3, ry, eD, b, k, rfl, eb, q⟩
  refine pairTrees_nil_walk ?_
  obtain rfl : u = Value.ref b := rx
  obtain ⟨z, hd, xs, rel, dd⟩ := dt_of I3.hok eD
  cases rel
  refine ⟨[(k, b, u2)], ⟨rfl, rfl, key_of I3.hok eb, trivial⟩, dd, fun h' tk dd' hs => wpAny_pure ?_⟩
  obtain ⟨ob, es, ep, hq, h2, h3, h4, _, h5⟩ := dd'
  have I4 : Inv X pins σ H2 { s2 with toks := tk } := I3.tok tk
  have nb : b ≠ s.heap.objs.size := ne_of eb eD (fun w => HO.noConfusion w)
  refine ⟨.ref s.heap.objs.size, upd H2 s.heap.objs.size (.dT [(k, y)]), ?_, rfl, q⟩
  refine d_write (s := { s2 with toks := tk }) I4 (by rw [eD]; exact trivial) hs ⟨ob, hq⟩ ⟨by show 1 ≤ _; decide, hd, [(k, b, u2)], .cons ⟨rfl, ?_, ry⟩ .nil, ob, es, ep, hq, h2, h3, h4, h5⟩
  rw [upd_ne nb]
  exact eb

/-! dict(list of pairs) -/
structure Row where
  t : Addr
  q : Addr
  k : List L2.Key
  v : V
def Row.Ok (H : Hp) (r : Row) : Prop := H r.t = some (.tup [.ref r.q, r.v]) ∧ H r.q = some (.tup (r.k.map kV))
theorem rows_ps {X : Cx} {pins : List (Addr × Obj)} {σ : L2.St} {H : Hp} {s : Shared} (I : Inv X pins σ H s) : ∀ rows : List Row, (∀ r ∈ rows, r.Ok H) →
    ∃ ps : List (List L2.Key × Addr × Value), KT H (rows.map fun r => (r.k, r.v)) ps ∧ Paired (fun (r : Row) p => p.2.1 = r.q ∧ PairAt s.heap r.t (.ref r.q) p.2.2) rows ps
  | [], _ => ⟨[], .nil, .nil⟩
  | r :: rs, h => by
    obtain ⟨ps, h1, h2⟩ := rows_ps I rs fun x hx => h x (List.mem_cons_of_mem _ hx)
    obtain ⟨a, b⟩ := h r List.mem_cons_self
    obtain ⟨its, rv, tp, _⟩ := I.tuple (SqT.of a)
    cases rv with
    | @cons _ u1 _ us r1 rest =>
      obtain rfl : u1 = Value.ref r.q := r1
      cases rest with
      | @cons _ u2 _ us2 r2 rest2 =>
        cases rest2
        refine ⟨(r.k, r.q, u2) :: ps, .cons ⟨rfl, b, r2⟩ h1, .cons ⟨rfl, .inl ?_⟩ h2⟩
        exact tp

def rDictT (K : PySem.W.Frag) : List V → Hp → VK → Prop := fun xs H Q => ∃ (a : Addr) (rows : List Row), xs = [.ref a] ∧ SqL K H a (rows.map fun r => V.ref r.t) ∧ (∀ r ∈ rows, r.Ok H) ∧ (rows.map (·.k)).Nodup ∧
  ∀ p, H p = none → Q (.ref p) (upd H p (.dT (rows.map fun r => (r.k, r.v))))
theorem call_dictT {X : Cx} (hc : X.calm = true) (hu : X.A.units + 64 < cLine) : CallR X (.type "dict") (rDictT X.K) := by
  intro pins s σ H xs us Q I r h
  obtain ⟨a, rows, rfl, hl, hrows, hnd, q⟩ := h
  obtain ⟨u, rfl, rx⟩ := r.one
  obtain rfl : u = Value.ref a := rx
  obtain ⟨its, rv, ⟨o, n, ho, ho2, ho3, ho4⟩, hz⟩ := I.list hl
  obtain ⟨ps, kt, pr⟩ := rows_ps I rows hrows
  have lps : ps.length = rows.length := (Paired.length pr).symm
  rw [List.length_map] at hz
  have eits : its = rows.map fun r => Value.ref r.t := by
    have e : (rows.map fun r => V.ref r.t) = (rows.map (·.t)).map V.ref := by rw [List.map_map] <;> rfl
    rw [e] at rv
    have := refs_at rv
    rw [this, List.map_map]
    rfl
  obtain ⟨Ts, hTs⟩ : ∃ Ts : Nat → Addr, Ts = fun j => ((rows[j]?).map (·.t)).getD 0 := ⟨_, rfl⟩
  obtain ⟨pv, hpv⟩ : ∃ pv : List (Value × Value), pv = ps.map fun p => (Value.ref p.2.1, p.2.2) := ⟨_, rfl⟩
  have lpv : pv.length = rows.length := by rw [hpv, List.length_map, lps]
  have keys : ps.map (·.1) = rows.map (·.k) := by
    have : ∀ {rs : List Row} {ps : List (List L2.Key × Addr × Value)}, KT H (rs.map fun r => (r.k, r.v)) ps → ps.map (·.1) = rs.map (·.k) := by
      intro rs
      induction rs with
      | nil =>
        intro ps k
        cases k
        rfl
      | cons r rs ih =>
        intro ps k
        have k' : KT H ((r.k, r.v) :: rs.map fun r => (r.k, r.v)) ps := k
        cases k' with
        | cons a b =>
          rw [List.map_cons, List.map_cons, ih b, ← a.1]
    exact this kt
  have stored : storedAllH [] ps = ps := storedAllH_nil_of_nodup ps (by rw [keys]; exact hnd)
  refine call_dict_pairsH (knd := tupleKind (mixKind X.prog X.w)) (ps := ps) (PairArg.list (prog := X.prog) (w := X.w) a its.toArray Ts pv) (I.ok.hd hc) (show X.A.units + 1 + 1 < cLine by omega)
    ⟨⟨o, n, ho, ho2, ho3, ho4⟩, ?_, ?_⟩ ⟨by rw [lps, lpv], ?_⟩ ?_ (by rw [lpv]; exact hz) ?_
  · rw [List.size_toArray, eits, List.length_map, lpv]
  · intro j k v e
    rw [hpv, List.getElem?_map] at e
    cases hp : ps[j]? with
    | none =>
      rw [hp] at e
      cases e
    | some p =>
      rw [hp] at e
      cases e
      have lt : j < rows.length := by
        rw [← lps]
        exact (List.getElem?_eq_some_iff.mp hp).1
      have hr : rows[j]? = some rows[j] := List.getElem?_eq_getElem lt
      obtain ⟨p', hp', e1, e2⟩ := L2.paired_get pr hr
      rw [hp] at hp'
      cases hp'
      refine ⟨?_, ?_⟩
      · rw [eits, List.getElem?_toArray, List.getElem?_map, hr, hTs]
        show some (Value.ref rows[j].t) = some (Value.ref (((rows[j]?).map (·.t)).getD 0))
        rw [hr]
        rfl
      · rw [hTs]
        show PairAt s.heap (((rows[j]?).map (·.t)).getD 0) _ _
        rw [hr]
        show PairAt s.heap rows[j].t (.ref p.2.1) p.2.2
        rw [e1]
        exact e2
  · intro i key v e
    have e' : pv[i]? = some (key, v) := e
    rw [hpv, List.getElem?_map] at e'
    cases hp : ps[i]? with
    | none =>
      rw [hp] at e'
      cases e'
    | some p =>
      rw [hp] at e'
      cases e'
      exact ⟨p.1, p.2.1, rfl, rfl⟩
  · intro h' keep x hx
    obtain ⟨i, hi⟩ := List.mem_iff_getElem?.mp hx
    obtain ⟨v, _, e2, _⟩ := KT.bwd kt (i := i) (k := x.1) (p := x.2) hi
    exact key_stays I.hok e2 fun o e => keep _ _ (Nat.ne_of_lt (Heap.lt_size e)) (by simp) e
  · intro h' tk dd keep
    rw [stored] at dd
    obtain ⟨od, es, ep, e1, e2, e3, e4, e5, e6⟩ := dd
    have keep' : ∀ b u, s.heap.get? b = some u → h'.get? b = some u := fun b u e => keep b u (by simp) e
    refine ⟨.ref s.heap.objs.size, upd H s.heap.objs.size (.dT (rows.map fun r => (r.k, r.v))), I.laid (t' := tk) keep' (Nat.le_refl _) ⟨by rw [List.length_map]; exact hz, beq_eq_false_iff_ne.mpr (Nat.ne_of_gt I.big), ps, ?_, od, es, ep, e1, e2, e3, e4, e6⟩, rfl,
      q _ (I.hok.fresh (Nat.le_refl _))⟩
    refine kt.keeps fun b ys eb => ?_
    rw [upd_ne (ne_of_none eb (I.hok.fresh (Nat.le_refl _)))]
    exact eb
end Pup

set_option Elab.async false
set_option linter.all false
set_option maxRecDepth 100000
set_option maxHeartbeats 1000000
namespace Pup
open PySem PySem.Spec PyProof.Rows L2

/-! d.values() as a value, and list of it -/
def valsO (p d : Addr) : HO := .ext fun h => h.IsValuesView p d
theorem valsO_ok {P : Program} {w : World} {H : Hp} {h : Heap} {p d : Addr} (e : h.get? p = some { cls := .type "dict_values", data := .fields #[.ref d] }) : ObjOk P w H h p (valsO p d) := by
  refine ⟨⟨_, e, rfl, rfl⟩, ⟨_, e⟩, ?_⟩
  intro h1 h2 x k
  obtain ⟨o, ho, r⟩ := x
  exact ⟨o, k o ho, r⟩
section
variable {X : Cx}
def rValsT : V → List V → Hp → VK → Prop := fun x xs H Q => ∃ (a : Addr) (kvs : List (List L2.Key × V)), x = .ref a ∧ xs = [] ∧ H a = some (.dT kvs) ∧ ∀ p, H p = none → Q (.ref p) (upd H p (valsO p a))
theorem mt_valsT : MtR X "dict.values" rValsT := by
  intro pins s σ H x xs v us Q I rx rxs h
  obtain ⟨a, kvs, rfl, rfl, ha, q⟩ := h
  cases rx
  cases rxs
  obtain ⟨z, hd, xs', rel, o, es, ep, ho, hx, hdat, _⟩ := dt_of I.hok ha
  have raw : s.heap.DictRaw a es ep := ⟨o, ho, hx, hdat⟩
  refine call_meetsIn F.slot_dict_values raw.typeIs F.entry_dict_values (F.args_dict_values_1 _) (meets_dict_values_raw a hd) ⟨⟨es, ep, raw⟩, ?_⟩
  exact ⟨.ref s.heap.objs.size, upd H s.heap.objs.size (valsO s.heap.objs.size a), I.laid (t' := s.toks) (fun b u e => Heap.get?_push_of_some _ e) (Nat.le_refl _) (valsO_ok (Heap.get?_push_size _ rfl)), rfl, q _ (I.hok.fresh (Nat.le_refl _))⟩
def rListVals : List V → Hp → VK → Prop := fun xs H Q => ∃ (p d : Addr) (kvs : List (List L2.Key × V)), xs = [.ref p] ∧ H p = some (valsO p d) ∧ H d = some (.dT kvs) ∧ ∀ q, H q = none → Q (.ref q) (upd H q (.lst (kvs.map (·.2))))
theorem call_listVals (hc : X.calm = true) : CallR X (.type "list") rListVals := by
  intro pins s σ H xs us Q I r h
  obtain ⟨p, d, kvs, rfl, hp, hd, q⟩ := h
  obtain ⟨u, rfl, rx⟩ := r.one
  obtain rfl : u = Value.ref p := rx
  have view : s.heap.IsValuesView p d := (show ObjOk X.prog X.w H s.heap p (valsO p d) from I.hok p _ hp).1
  obtain ⟨z, hs, ts, kt, o, es, ep, ho, hx, hdt, he, his, hn⟩ := dt_of I.hok hd
  have l1 : es.size = ts.length := size_of_entries he
  have l2 : kvs.length = ts.length := KT.len kt
  refine PySem.W.kdl_call (KdlSrc.rawValues (es := es) (ep := ep)) (I.ok.hd hc) ⟨view, o, ho, hx, hdt⟩ (by omega) ?_
  intro h' tk acc c keep e it
  refine ⟨.ref s.heap.objs.size, _, I.laid (t' := tk) (o := .lst (kvs.map (·.2))) keep (Nat.le_refl _) ⟨by rw [List.length_map]; exact z, acc.toList, c, ?_, by rw [Array.toArray_toList]; exact e⟩, rfl, q _ (I.hok.fresh (Nat.le_refl _))⟩
  have la : acc.toList.length = es.size := by rw [Array.length_toList, it.1]
  refine vals_of_at (by rw [List.length_map, la]; omega) ?_
  intro j x u h1 h2
  obtain ⟨hi, hv⟩ := it.2 j u (by rw [← Array.getElem?_toList]; exact h2)
  rw [List.getElem?_map] at h1
  cases hk : kvs[j]? with
  | none =>
    rw [hk] at h1
    cases h1
  | some kv =>
    rw [hk] at h1
    cases h1
    obtain ⟨b, w, e1, _, e3⟩ := KT.fwd kt (i := j) (k := kv.1) (v := kv.2) hk
    have en := entry_at he j
    rw [e1, Array.getElem?_eq_getElem hi] at en
    have en' : es[j] = entryOfKey (tupleKind (mixKind X.prog X.w)) (kv.1, b, w) := Option.some.inj en
    rw [hv, en']
    exact e3

/-! d.clear() -/
def rClearT : V → List V → Hp → VK → Prop := fun x xs H Q => ∃ (a : Addr) (kvs : List (List L2.Key × V)), x = .ref a ∧ xs = [] ∧ H a = some (.dT kvs) ∧ Q .non (upd H a (.dT []))
theorem mt_clearT : MtR X "dict.clear" rClearT := by
  intro pins s σ H x xs v us Q I rx rxs h
  obtain ⟨a, kvs, rfl, rfl, ha, q⟩ := h
  cases rx
  cases rxs
  obtain ⟨z, hd, xs', rel, o, es, ep, ho, hx, hdat, he, _⟩ := dt_of I.hok ha
  have raw : s.heap.DictRaw a es ep := ⟨o, ho, hx, hdat⟩
  have l1 : es.size = xs'.length := size_of_entries he
  have l2 : kvs.length = xs'.length := KT.len rel
  refine call_meetsIn F.slot_dict_clear raw.typeIs F.entry_dict_clear (F.args_dict_clear_1 _) (meets_dict_clear_raw a) ⟨es, ep, raw, by omega, fun h' hr' hs' => ?_⟩
  obtain ⟨o', ho', hc', hdat'⟩ := hr'
  exact ⟨.non, upd H a (.dT []), d_write I (by rw [ha]; exact trivial) hs' ⟨o', ho'⟩ ⟨Nat.zero_le _, hd, [], .nil, o', #[], _, ho', hc', hdat', rfl, List.nodup_nil⟩, rfl, q⟩

/-! len(set(t)), t a tuple of distinct ints -/
def tLenSetT (K : PySem.W.Frag) (ta : TE) : TE := fun σ H Q => ta σ H fun x H1 => ∃ (l : Addr) (ns : List Int), x = V.ref l ∧ SqT K H1 l (ns.map V.int) ∧ ns.length < 64 ∧ ns.Nodup ∧ Q (.int ns.length) H1
theorem pe_lenSetT {a : Expr} {ta : TE} {p p2 q pos : Pos} (hc : X.calm = true) (hg : Gl X "len") (hm : X.mg "len" = none) (hg2 : Gl X "set") (hm2 : X.mg "set" = none) (ha : PE X a ta)
    (na : starEach [a] X.env = (false, eval a X.env) :: starEach [] X.env := by rfl) : PE X (.Call (.Name "len" p) [.Call (.Name "set" p2) [a] [] q] [] pos) (tLenSetT X.K ta) := by
  constructor
  intro pins s σ H Q I h
  refine Call_ (ld_blt I hg hm PySem.boot_len (PyProof.Rows.callWith_builtin1 (PyProof.Rows.args_cons ?_ rfl) rfl rfl))
  refine Call_ (ld_blt I hg2 hm2 PyProof.Rows.boot_set (PyProof.Rows.callWith_type1 (PyProof.Rows.args_cons (thn (ha.run pins s σ H _ I h) ?_) na) na rfl))
  rintro v s1 ⟨x, H1, I1, r1, l, ns, rfl, hq, few, nd, q1⟩
  refine PyProof.Rows.args_nil ?_
  cases r1
  obtain ⟨its, r, tp, _⟩ := I1.tuple hq
  refine call_set_tupI ns (I1.ok.hd hc) tp (by simpa using r.ints) (by unfold scanBound; omega) ?_
  intro h' tk c R hle keep
  refine PyProof.Rows.args_nil ?_
  obtain ⟨o, es, ep, t, ho, hex, hd, _, knd, mem, _, fits, sz, _⟩ := R
  have cnt : c = ns.length := by
    have perm : (es.toList.map keyOf).Perm ns := (List.perm_ext_iff_of_nodup knd nd).mpr fun k => by
      rw [← mem k, decide_eq_true_iff]
    have := perm.length_eq
    rw [List.length_map, Array.length_toList] at this
    omega
  have I2 : Inv X pins σ H1 { s1 with heap := h', toks := tk } := I1.kept keep
  exact call_len_set ho hex hd fits (by omega) ⟨.int ns.length, H1, I2.tok _, ⟨_, by rw [sz, cnt]⟩, q1⟩

/-! xs[i] read by value -/
def rGetL (K : PySem.W.Frag) : V → V → Hp → VK → Prop := fun o i H Q => ∃ (p : Addr) (xs : List V) (j : Nat) (v : V), o = .ref p ∧ i = .int (j : Int) ∧ SqL K H p xs ∧ (j : Int) < 2 ^ 63 ∧ xs[j]? = some v ∧ Q v H
theorem get_list : PGet X (rGetL X.K) := by
  intro pins s σ H o i ov iv Q I ro ri h
  obtain ⟨p, xs, j, v, rfl, rfl, hs, lt, hx, q⟩ := h
  cases ro
  obtain ⟨t, rfl⟩ := ri
  obtain ⟨its, rv, pl, _⟩ := I.list hs
  obtain ⟨u, hu, ru⟩ := rv.get hx
  exact wpAny_getItem_list pl.isList (Int.natCast_nonneg j) lt (by simpa using hu) ⟨v, H, I, ru, q⟩
end
end Pup

set_option linter.all false
namespace Pup

/-! lists without repetition -/
theorem perm_of_sub {α : Type} [DecidableEq α] : ∀ {b a : List α}, b.Nodup → (∀ x ∈ b, x ∈ a) → a.length ≤ b.length → b.Perm a
  | [], a, _, _, h => by
    have : a = [] := List.length_eq_zero_iff.mp (by simpa using h)
    rw [this]
  | x :: b, a, nd, sub, h => by
    obtain ⟨n1, n2⟩ := List.nodup_cons.mp nd
    have hx : x ∈ a := sub x List.mem_cons_self
    have le := List.length_erase_of_mem hx
    have pos := List.length_pos_of_mem hx
    have ih : b.Perm (a.erase x) := perm_of_sub n2 (fun y hy => by
      have ne : y ≠ x := fun e => n1 (e ▸ hy)
      exact (List.mem_erase_of_ne ne).2 (sub y (List.mem_cons_of_mem _ hy))) (by
      rw [List.length_cons] at h
      omega)
    exact (ih.cons x).trans (List.perm_cons_erase hx).symm
theorem len_le_of_sub {α : Type} [DecidableEq α] : ∀ {b a : List α}, b.Nodup → (∀ x ∈ b, x ∈ a) → b.length ≤ a.length
  | [], _, _, _ => Nat.zero_le _
  | x :: b, a, nd, sub => by
    obtain ⟨n1, n2⟩ := List.nodup_cons.mp nd
    have hx : x ∈ a := sub x List.mem_cons_self
    have le := List.length_erase_of_mem hx
    have pos := List.length_pos_of_mem hx
    have ih := len_le_of_sub (a := a.erase x) n2 (fun y hy => by
      have ne : y ≠ x := fun e => n1 (e ▸ hy)
      exact (List.mem_erase_of_ne ne).2 (sub y (List.mem_cons_of_mem _ hy)))
    rw [List.length_cons]
    omega
/-- an injective map of a finite set into itself is onto -/
theorem onto_of_inj {α : Type} [DecidableEq α] {R : List α} {f : α → α} (nd : R.Nodup) (into : ∀ r ∈ R, f r ∈ R) (inj : ∀ r ∈ R, ∀ s ∈ R, f r = f s → r = s) : ∀ r ∈ R, ∃ s ∈ R, f s = r := by
  have nd2 : (R.map f).Nodup := by
    rw [List.nodup_iff_pairwise_ne, List.pairwise_map]
    refine List.Pairwise.imp_of_mem ?_ (List.nodup_iff_pairwise_ne.mp nd)
    intro a b ha hb ne e
    exact ne (inj a ha b hb e)
  have perm : (R.map f).Perm R := perm_of_sub nd2 (fun x hx => by
    obtain ⟨r, hr, rfl⟩ := List.mem_map.mp hx
    exact into r hr) (by rw [List.length_map]; exact Nat.le_refl _)
  intro r hr
  obtain ⟨s, hs, e⟩ := List.mem_map.mp (perm.mem_iff.mpr hr)
  exact ⟨s, hs, e⟩

/-! what can be reached -/
section
variable {α : Type} [DecidableEq α]
inductive ReachN (moves : List (α → α)) (start : α) : Nat → α → Prop
  | zero : ReachN moves start 0 start
  | step {d : Nat} {a : α} {f : α → α} : ReachN moves start d a → f ∈ moves → ReachN moves start (d + 1) (f a)
structure Closed (moves : List (α → α)) (start : α) (m : List (α × Nat)) : Prop where
  nd : (m.map (·.1)).Nodup
  st : (start, 0) ∈ m
  cl : ∀ a d, (a, d) ∈ m → ∀ f ∈ moves, ∃ d', (f a, d') ∈ m ∧ d' ≤ d + 1
  rn : ∀ a d, (a, d) ∈ m → ReachN moves start d a
variable {moves : List (α → α)} {start : α} {m m' : List (α × Nat)}
theorem Closed.holds (c : Closed moves start m) : ∀ {d a}, ReachN moves start d a → ∃ d', (a, d') ∈ m ∧ d' ≤ d := by
  intro d a r
  induction r with
  | zero => exact ⟨0, c.st, Nat.le_refl _⟩
  | @step d a f r hf ih =>
    obtain ⟨d1, h1, h2⟩ := ih
    obtain ⟨d2, h3, h4⟩ := c.cl a d1 h1 f hf
    exact ⟨d2, h3, by omega⟩
theorem key_fun (nd : (m.map (·.1)).Nodup) {a : α} {d e : Nat} (h1 : (a, d) ∈ m) (h2 : (a, e) ∈ m) : d = e := by
  induction m with
  | nil => cases h1
  | cons x r ih =>
    rw [List.map_cons, List.nodup_cons] at nd
    rcases List.mem_cons.mp h1 with k1 | k1
    · rcases List.mem_cons.mp h2 with k2 | k2
      · rw [← k1] at k2
        injection k2 with _ e3
        exact e3.symm
      · rw [← k1] at nd
        exact absurd (show a ∈ r.map (·.1) from List.mem_map.mpr ⟨(a, e), k2, rfl⟩) nd.1
    · rcases List.mem_cons.mp h2 with k2 | k2
      · rw [← k2] at nd
        exact absurd (show a ∈ r.map (·.1) from List.mem_map.mpr ⟨(a, d), k1, rfl⟩) nd.1
      · exact ih nd.2 k1 k2
theorem nodup_of_keys (nd : (m.map (·.1)).Nodup) : m.Nodup := by
  rw [List.nodup_iff_pairwise_ne] at nd ⊢
  rw [List.pairwise_map] at nd
  exact nd.imp fun h e => h (by rw [e])
theorem Closed.sub (c : Closed moves start m) (c' : Closed moves start m') {p : α × Nat} (h : p ∈ m) : p ∈ m' := by
  obtain ⟨a, d⟩ := p
  obtain ⟨d1, h1, l1⟩ := c'.holds (c.rn a d h)
  obtain ⟨d2, h2, l2⟩ := c.holds (c'.rn a d1 h1)
  have e := key_fun c.nd h h2
  have : d1 = d := by omega
  rw [← this]
  exact h1
theorem Closed.perm (c : Closed moves start m) (c' : Closed moves start m') : m.Perm m' :=
  (List.perm_ext_iff_of_nodup (nodup_of_keys c.nd) (nodup_of_keys c'.nd)).mpr fun _ => ⟨c.sub c', c'.sub c⟩
/-- the keys, by reaching alone -/
def Reach (moves : List (α → α)) (start : α) (a : α) : Prop := ∃ d, ReachN moves start d a
theorem Closed.mem_iff (c : Closed moves start m) (a : α) : a ∈ m.map (·.1) ↔ Reach moves start a := by
  constructor
  · intro h
    obtain ⟨⟨b, d⟩, h1, rfl⟩ := List.mem_map.mp h
    exact ⟨d, c.rn b d h1⟩
  · rintro ⟨d, r⟩
    obtain ⟨d', h, _⟩ := c.holds r
    exact List.mem_map.mpr ⟨_, h, rfl⟩
theorem Closed.into (c : Closed moves start m) {a : α} (h : a ∈ m.map (·.1)) {f : α → α} (hf : f ∈ moves) : f a ∈ m.map (·.1) := by
  obtain ⟨⟨b, d⟩, h1, rfl⟩ := List.mem_map.mp h
  obtain ⟨d', h2, _⟩ := c.cl b d h1 f hf
  exact List.mem_map.mpr ⟨_, h2, rfl⟩

/-! with what undoes the moves -/
/-- all keys are good, moves are injective among good ones -/
theorem same_keys {more : List (α → α)} {good : α → Prop} (c : Closed moves start m) (c' : Closed more start m') (hg : ∀ a ∈ m.map (·.1), good a)
    (inj : ∀ f ∈ moves, ∀ a b, good a → good b → f a = f b → a = b) (sub : ∀ f ∈ moves, f ∈ more)
    (undo : ∀ f ∈ more, f ∈ moves ∨ ∃ g ∈ moves, ∀ a, good a → f (g a) = a) : (m.map (·.1)).Perm (m'.map (·.1)) := by
  refine (List.perm_ext_iff_of_nodup c.nd c'.nd).mpr fun a => ?_
  rw [c.mem_iff, c'.mem_iff]
  constructor
  · rintro ⟨d, r⟩
    refine ⟨d, ?_⟩
    induction r with
    | zero => exact .zero
    | step r hf ih => exact .step ih (sub _ hf)
  · rintro ⟨d, r⟩
    rw [← c.mem_iff]
    induction r with
    | zero => exact List.mem_map.mpr ⟨_, c.st, rfl⟩
    | @step d a f r hf ih =>
      rcases undo f hf with h | ⟨g, hg', hu⟩
      · exact c.into ih h
      · obtain ⟨s, hs, e⟩ := onto_of_inj (f := g) c.nd (fun r hr => c.into hr hg') (fun r hr s hs e => inj g hg' r s (hg r hr) (hg s hs) e) a ih
        rw [← e, hu s (hg s hs)]
        exact hs

/-! the search, a step at a time -/
/-- between two turns of the outer loop: t the depth of the level -/
structure Sweep (moves : List (α → α)) (start : α) (m : List (α × Nat)) (t : Nat) (level : List α) : Prop where
  nd : (m.map (·.1)).Nodup
  st : (start, 0) ∈ m
  rn : ∀ a d, (a, d) ∈ m → ReachN moves start d a
  le : ∀ a d, (a, d) ∈ m → d ≤ t
  lv : ∀ a ∈ level, (a, t) ∈ m
  cl : ∀ a d, (a, d) ∈ m → a ∉ level → ∀ f ∈ moves, ∃ d', (f a, d') ∈ m ∧ d' ≤ d + 1
/-- within a turn: todo the places of the level that are still to come, now the one at hand with the moves that were gone through -/
structure Within (moves : List (α → α)) (start : α) (m : List (α × Nat)) (t : Nat) (now : Option (α × List (α → α))) (todo later : List α) : Prop where
  nd : (m.map (·.1)).Nodup
  st : (start, 0) ∈ m
  rn : ∀ a d, (a, d) ∈ m → ReachN moves start d a
  le : ∀ a d, (a, d) ∈ m → d ≤ t ∨ (d = t + 1 ∧ a ∈ later)
  td : ∀ a ∈ todo, (a, t) ∈ m
  nw : ∀ a gone, now = some (a, gone) → (a, t) ∈ m ∧ ∀ f ∈ gone, ∃ d', (f a, d') ∈ m ∧ d' ≤ t + 1
  lt : ∀ a ∈ later, (a, t + 1) ∈ m
  cl : ∀ a d, (a, d) ∈ m → a ∉ todo → (∀ gone, now ≠ some (a, gone)) → a ∉ later → ∀ f ∈ moves, ∃ d', (f a, d') ∈ m ∧ d' ≤ d + 1
theorem Sweep.first : Sweep moves start [(start, 0)] 0 [start] where
  nd := by simp
  st := by simp
  rn := fun a d h => by
    have e : (a, d) = (start, 0) := by simpa using h
    injection e with e1 e2
    subst e1
    subst e2
    exact .zero
  le := fun a d h => by
    have e : (a, d) = (start, 0) := by simpa using h
    injection e with _ e2
    omega
  lv := fun a h => by
    have e : a = start := by simpa using h
    rw [e]
    simp
  cl := fun a d h hn => by
    have e : (a, d) = (start, 0) := by simpa using h
    injection e with e1 _
    exact absurd (by rw [e1]; simp) hn
theorem Sweep.done {t : Nat} (s : Sweep moves start m t []) : Closed moves start m :=
  ⟨s.nd, s.st, fun a d h f hf => s.cl a d h (by simp) f hf, s.rn⟩
theorem Sweep.into {t : Nat} {level : List α} (s : Sweep moves start m t level) : Within moves start m t none level [] :=
  ⟨s.nd, s.st, s.rn, fun a d h => .inl (s.le a d h), s.lv, fun _ _ z => (by cases z), fun _ z => (by cases z), fun a d h h1 _ _ => s.cl a d h h1⟩
theorem Within.out {t : Nat} {later : List α} (s : Within moves start m t none [] later) : Sweep moves start m (t + 1) later := by
  refine ⟨s.nd, s.st, s.rn, fun a d h => ?_, s.lt, fun a d h hl => s.cl a d h (by simp) (fun _ z => by cases z) hl⟩
  rcases s.le a d h with h | ⟨h, _⟩ <;> omega
theorem Within.pick {t : Nat} {a : α} {todo later : List α} (s : Within moves start m t none (a :: todo) later) : Within moves start m t (some (a, [])) todo later := by
  refine ⟨s.nd, s.st, s.rn, s.le, fun b h => s.td b (List.mem_cons_of_mem _ h), ?_, s.lt, fun b d h h1 h2 h3 => ?_⟩
  · intro b gone e
    injection e with e
    injection e with e1 e2
    subst e1
    subst e2
    exact ⟨s.td a List.mem_cons_self, fun f hf => by cases hf⟩
  · refine s.cl b d h ?_ (fun _ z => by cases z) h3
    intro hm
    rcases List.mem_cons.mp hm with e | hm
    · exact h2 [] (by rw [e])
    · exact h1 hm
theorem Within.drop {t : Nat} {a : α} {todo later : List α} (s : Within moves start m t (some (a, moves)) todo later) : Within moves start m t none todo later := by
  refine ⟨s.nd, s.st, s.rn, s.le, s.td, fun _ _ z => (by cases z), s.lt, fun b d h h1 _ h3 => ?_⟩
  by_cases e : b = a
  · subst e
    obtain ⟨q1, q2⟩ := s.nw b moves rfl
    have : d = t := key_fun s.nd h q1
    subst this
    exact q2
  · exact s.cl b d h h1 (fun gone z => by
      injection z with z
      injection z with z _
      exact e z.symm) h3
/-- the goal stands there already -/
theorem Within.met {t : Nat} {a : α} {f : α → α} {gone : List (α → α)} {todo later : List α} (s : Within moves start m t (some (a, gone)) todo later) (h : f a ∈ m.map (·.1)) : Within moves start m t (some (a, gone ++ [f])) todo later := by
  refine ⟨s.nd, s.st, s.rn, s.le, s.td, ?_, s.lt, fun b d hb h1 h2 h3 => s.cl b d hb h1 (fun g z => ?_) h3⟩
  · intro b g e
    injection e with e
    injection e with e1 e2
    subst e1
    subst e2
    obtain ⟨q1, q2⟩ := s.nw a gone rfl
    refine ⟨q1, fun g hg => ?_⟩
    rcases List.mem_append.mp hg with hg | hg
    · exact q2 g hg
    · have eg : g = f := by simpa using hg
      subst eg
      obtain ⟨⟨b, d⟩, h1, h2⟩ := List.mem_map.mp h
      have e2 : b = g a := h2
      subst e2
      refine ⟨d, h1, ?_⟩
      rcases s.le _ _ h1 with z | ⟨z, _⟩ <;> omega
  · injection z with z
    injection z with z1 z2
    exact h2 (gone ++ [f]) (by rw [z1])
/-- the goal is new -/
theorem Within.new {t : Nat} {a : α} {f : α → α} {gone : List (α → α)} {todo later : List α} (s : Within moves start m t (some (a, gone)) todo later) (hf : f ∈ moves) (h : f a ∉ m.map (·.1)) :
    Within moves start (m ++ [(f a, t + 1)]) t (some (a, gone ++ [f])) todo (later ++ [f a]) := by
  have old : ∀ {b d}, (b, d) ∈ m → (b, d) ∈ m ++ [(f a, t + 1)] := fun hb => List.mem_append_left _ hb
  have cases2 : ∀ {b d}, (b, d) ∈ m ++ [(f a, t + 1)] → (b, d) ∈ m ∨ (b = f a ∧ d = t + 1) := by
    intro b d hb
    rcases List.mem_append.mp hb with hb | hb
    · exact .inl hb
    · have e : (b, d) = (f a, t + 1) := by simpa using hb
      injection e with e1 e2
      exact .inr ⟨e1, e2⟩
  obtain ⟨q1, q2⟩ := s.nw a gone rfl
  refine ⟨?_, old s.st, ?_, ?_, fun b hb => old (s.td b hb), ?_, ?_, ?_⟩
  · rw [List.map_append, List.nodup_append]
    refine ⟨s.nd, by simp, ?_⟩
    intro x hx y hy e
    have ey : y = f a := by simpa using hy
    exact h (by rw [← ey, ← e]; exact hx)
  · intro b d hb
    rcases cases2 hb with hb | ⟨rfl, rfl⟩
    · exact s.rn b d hb
    · exact .step (s.rn a t q1) hf
  · intro b d hb
    rcases cases2 hb with hb | ⟨rfl, rfl⟩
    · rcases s.le b d hb with z | ⟨z1, z2⟩
      · exact .inl z
      · exact .inr ⟨z1, List.mem_append_left _ z2⟩
    · exact .inr ⟨rfl, List.mem_append_right _ (by simp)⟩
  · intro b g e
    injection e with e
    injection e with e1 e2
    subst e1
    subst e2
    refine ⟨old q1, fun g hg => ?_⟩
    rcases List.mem_append.mp hg with hg | hg
    · obtain ⟨d', z1, z2⟩ := q2 g hg
      exact ⟨d', old z1, z2⟩
    · have eg : g = f := by simpa using hg
      subst eg
      exact ⟨t + 1, List.mem_append_right _ (by simp), Nat.le_refl _⟩
  · intro b hb
    rcases List.mem_append.mp hb with hb | hb
    · exact old (s.lt b hb)
    · have e : b = f a := by simpa using hb
      rw [e]
      exact List.mem_append_right _ (by simp)
  · intro b d hb h1 h2 h3 g hg
    rcases cases2 hb with hb | ⟨rfl, rfl⟩
    · obtain ⟨d', z1, z2⟩ := s.cl b d hb h1 (fun g' z => by
        injection z with z
        injection z with z1 z2
        exact h2 (gone ++ [f]) (by rw [z1])) (fun z => h3 (List.mem_append_left _ z)) g hg
      exact ⟨d', old z1, z2⟩
    · exact absurd (List.mem_append_right _ (by simp)) h3
end
end Pup

set_option linter.all false
namespace Pup

def iota (n : Nat) : List Int := (List.range n).map fun (i : Nat) => (i : Int)
theorem iota_len (n : Nat) : (iota n).length = n := by simp [iota]
theorem iota_mem {n : Nat} {x : Int} : x ∈ iota n ↔ 0 ≤ x ∧ x < n := by
  unfold iota
  rw [List.mem_map]
  constructor
  · rintro ⟨i, hi, rfl⟩
    have := List.mem_range.mp hi
    omega
  · rintro ⟨h0, h1⟩
    exact ⟨x.toNat, List.mem_range.mpr (by omega), by omega⟩
theorem iota_nodup (n : Nat) : (iota n).Nodup := by
  unfold iota
  rw [List.nodup_iff_pairwise_ne, List.pairwise_map]
  exact (List.nodup_iff_pairwise_ne.mp List.nodup_range).imp fun h e => h (by omega)
theorem iota_get {n i : Nat} (h : i < n) : (iota n)[i]? = some (i : Int) := by
  unfold iota
  rw [List.getElem?_map, List.getElem?_range h]
  rfl
/-- an arrangement of n -/
def Arr (n : Nat) (a : List Int) : Prop := a.Perm (iota n)
theorem Arr.len {n : Nat} {a : List Int} (h : Arr n a) : a.length = n := by rw [h.length_eq, iota_len]
theorem Arr.nodup {n : Nat} {a : List Int} (h : Arr n a) : a.Nodup := h.nodup_iff.mpr (iota_nodup n)
theorem Arr.mem {n : Nat} {a : List Int} (h : Arr n a) {x : Int} : x ∈ a ↔ 0 ≤ x ∧ x < n := by rw [h.mem_iff, iota_mem]
theorem Arr.of {n : Nat} {a : List Int} (nd : a.Nodup) (len : a.length = n) (b : ∀ x ∈ a, 0 ≤ x ∧ x < n) : Arr n a :=
  perm_of_sub nd (fun x hx => iota_mem.mpr (b x hx)) (by rw [iota_len, len]; exact Nat.le_refl _)

/-- p behind r -/
def comp (p r : List Int) : List Int := r.map fun x => p.getD x.toNat 0
theorem comp_iota {n : Nat} {p : List Int} (h : p.length = n) : comp p (iota n) = p := by
  refine List.ext_getElem? fun i => ?_
  unfold comp
  rw [List.getElem?_map]
  by_cases hi : i < n
  · rw [iota_get hi]
    show some (p.getD ((i : Int).toNat) 0) = _
    rw [Int.toNat_natCast, List.getD_eq_getElem?_getD, List.getElem?_eq_getElem (by omega : i < p.length)]
    rfl
  · rw [List.getElem?_eq_none (by rw [iota_len]; omega), List.getElem?_eq_none (by omega)]
    rfl
theorem comp_arr {n : Nat} {p r : List Int} (hp : Arr n p) (hr : Arr n r) : Arr n (comp p r) := by
  have h1 : (comp p r).Perm (comp p (iota n)) := hr.map _
  rw [comp_iota hp.len] at h1
  exact h1.trans hp
theorem comp_assoc {n : Nat} {p q r : List Int} (hq : Arr n q) (hr : Arr n r) : comp (comp p q) r = comp p (comp q r) := by
  unfold comp
  rw [List.map_map]
  refine List.map_congr_left fun x hx => ?_
  obtain ⟨h0, h1⟩ := hr.mem.mp hx
  have lt : x.toNat < q.length := by
    rw [hq.len]
    omega
  show (q.map fun x => p.getD x.toNat 0).getD x.toNat 0 = p.getD (q.getD x.toNat 0).toNat 0
  rw [List.getD_eq_getElem?_getD, List.getElem?_map, List.getD_eq_getElem?_getD (l := q), List.getElem?_eq_getElem lt]
  rfl
theorem getD_mem {p : List Int} {i : Nat} (h : i < p.length) : p.getD i 0 = p[i] := by
  rw [List.getD_eq_getElem?_getD, List.getElem?_eq_getElem h]
  rfl
theorem comp_inj {n : Nat} {p r s : List Int} (hp : Arr n p) (hr : Arr n r) (hs : Arr n s) (e : comp p r = comp p s) : r = s := by
  refine List.ext_getElem? fun i => ?_
  by_cases hi : i < n
  · have l1 : i < r.length := by rw [hr.len]; exact hi
    have l2 : i < s.length := by rw [hs.len]; exact hi
    have e1 : (comp p r)[i]? = (comp p s)[i]? := by rw [e]
    unfold comp at e1
    rw [List.getElem?_map, List.getElem?_map, List.getElem?_eq_getElem l1, List.getElem?_eq_getElem l2] at e1
    have e2 : p.getD (r[i]).toNat 0 = p.getD (s[i]).toNat 0 := Option.some.inj e1
    obtain ⟨a1, a2⟩ := hr.mem.mp (List.getElem_mem l1)
    obtain ⟨b1, b2⟩ := hs.mem.mp (List.getElem_mem l2)
    have k1 : (r[i]).toNat < p.length := by rw [hp.len]; omega
    have k2 : (s[i]).toNat < p.length := by rw [hp.len]; omega
    rw [getD_mem k1, getD_mem k2] at e2
    have e3 := (List.getElem_inj hp.nodup).mp e2
    rw [List.getElem?_eq_getElem l1, List.getElem?_eq_getElem l2]
    congr 1
    omega
  · rw [List.getElem?_eq_none (by rw [hr.len]; omega), List.getElem?_eq_none (by rw [hs.len]; omega)]

/-! cosets -/
theorem coset_dvd {n : Nat} {R : List (List Int)} (nd : R.Nodup) (ar : ∀ r ∈ R, Arr n r) (one : iota n ∈ R) (mul : ∀ r ∈ R, ∀ s ∈ R, comp r s ∈ R) :
    ∀ (k : Nat) (L : List (List Int)), L.length ≤ k → L.Nodup → (∀ p ∈ L, Arr n p) → (∀ p ∈ L, ∀ r ∈ R, comp p r ∈ L) → R.length ∣ L.length := by
  have inv : ∀ r ∈ R, ∃ s ∈ R, comp r s = iota n := fun r hr =>
    onto_of_inj (f := comp r) nd (fun s hs => mul r hr s hs) (fun s hs t ht e => comp_inj (ar r hr) (ar s hs) (ar t ht) e) (iota n) one
  intro k
  induction k with
  | zero =>
    intro L hl _ _ _
    have : L.length = 0 := by omega
    rw [this]
    exact Nat.dvd_zero _
  | succ k ih =>
    intro L hl ndL arL cl
    cases hL : L with
    | nil => exact Nat.dvd_zero _
    | cons p L' =>
      rw [← hL]
      have hp : p ∈ L := by rw [hL]; exact List.mem_cons_self
      -- the coset of p
      have ndC : (R.map (comp p)).Nodup := by
        rw [List.nodup_iff_pairwise_ne, List.pairwise_map]
        refine List.Pairwise.imp_of_mem ?_ (List.nodup_iff_pairwise_ne.mp nd)
        intro r s hr hs ne e
        exact ne (comp_inj (arL p hp) (ar r hr) (ar s hs) e)
      have subC : ∀ q ∈ R.map (comp p), q ∈ L := fun q hq => by
        obtain ⟨r, hr, rfl⟩ := List.mem_map.mp hq
        exact cl p hp r hr
      -- the rest
      have ndM : (L.filter fun q => !decide (q ∈ R.map (comp p))).Nodup := ndL.filter _
      have memM : ∀ q, q ∈ (L.filter fun q => !decide (q ∈ R.map (comp p))) ↔ q ∈ L ∧ q ∉ R.map (comp p) := fun q => by
        rw [List.mem_filter]
        simp
      have perm : L.Perm (R.map (comp p) ++ L.filter fun q => !decide (q ∈ R.map (comp p))) := by
        refine (List.perm_ext_iff_of_nodup ndL ?_).mpr fun q => ?_
        · rw [List.nodup_append]
          refine ⟨ndC, ndM, ?_⟩
          intro x hx y hy e
          exact ((memM y).mp hy).2 (by rw [← e]; exact hx)
        · rw [List.mem_append, memM]
          constructor
          · intro hq
            by_cases c : q ∈ R.map (comp p)
            · exact .inl c
            · exact .inr ⟨hq, c⟩
          · rintro (h | ⟨h, _⟩)
            · exact subC q h
            · exact h
      have len : L.length = R.length + (L.filter fun q => !decide (q ∈ R.map (comp p))).length := by
        have := perm.length_eq
        rw [List.length_append, List.length_map] at this
        exact this
      have pos : 0 < R.length := List.length_pos_of_mem one
      have sub := ih (L.filter fun q => !decide (q ∈ R.map (comp p))) (by omega) ndM (fun q hq => arL q ((memM q).mp hq).1) (fun q hq r hr => by
        obtain ⟨q1, q2⟩ := (memM q).mp hq
        refine (memM _).mpr ⟨cl q q1 r hr, fun hc => ?_⟩
        obtain ⟨s, hs, e⟩ := List.mem_map.mp hc
        obtain ⟨r', hr', e'⟩ := inv r hr
        refine q2 (List.mem_map.mpr ⟨comp s r', mul s hs r' hr', ?_⟩)
        have e2 : comp (comp p s) r' = comp (comp q r) r' := by rw [e]
        rw [comp_assoc (n := n) (ar s hs) (ar r' hr'), comp_assoc (n := n) (ar r hr) (ar r' hr'), e', comp_iota (arL q q1).len] at e2
        exact e2)
      rw [len]
      exact Nat.dvd_add (Nat.dvd_refl _) sub

/-! all arrangements -/
def fact : Nat → Nat
  | 0 => 1
  | n + 1 => (n + 1) * fact n
def perms : Nat → List Int → List (List Int)
  | 0, _ => [[]]
  | k + 1, av => av.flatMap fun x => (perms k (av.erase x)).map (x :: ·)
theorem flat_len {α β : Type} {f : α → List β} {c : Nat} : ∀ {l : List α}, (∀ x ∈ l, (f x).length = c) → (l.flatMap f).length = l.length * c
  | [], _ => by simp
  | x :: l, h => by
    rw [List.flatMap_cons, List.length_append, h x List.mem_cons_self, flat_len fun y hy => h y (List.mem_cons_of_mem _ hy), List.length_cons, Nat.succ_mul]
    omega
theorem perms_len : ∀ (k : Nat) (av : List Int), av.length = k → (perms k av).length = fact k
  | 0, _, _ => rfl
  | k + 1, av, h => by
    unfold perms
    rw [flat_len (c := fact k) (fun x hx => by
      rw [List.length_map]
      refine perms_len k _ ?_
      rw [List.length_erase_of_mem hx]
      omega), h]
    rfl
theorem perms_mem : ∀ (k : Nat) (av : List Int), av.length = k → ∀ l, l ∈ perms k av ↔ l.Perm av
  | 0, av, h, l => by
    have : av = [] := List.length_eq_zero_iff.mp h
    subst this
    unfold perms
    simp
  | k + 1, av, h, l => by
    unfold perms
    rw [List.mem_flatMap]
    constructor
    · rintro ⟨x, hx, hl⟩
      obtain ⟨r, hr, rfl⟩ := List.mem_map.mp hl
      have := (perms_mem k (av.erase x) (by rw [List.length_erase_of_mem hx]; omega) r).mp hr
      exact (this.cons x).trans (List.perm_cons_erase hx).symm
    · intro hp
      cases l with
      | nil =>
        have := hp.length_eq
        rw [h] at this
        cases this
      | cons x r =>
        have hx : x ∈ av := hp.mem_iff.mp List.mem_cons_self
        refine ⟨x, hx, List.mem_map.mpr ⟨r, ?_, rfl⟩⟩
        refine (perms_mem k (av.erase x) (by rw [List.length_erase_of_mem hx]; omega) r).mpr ?_
        exact ((List.cons_perm_iff_perm_erase).mp hp).2
theorem perms_nodup : ∀ (k : Nat) (av : List Int), av.length = k → av.Nodup → (perms k av).Nodup
  | 0, _, _, _ => by simp [perms]
  | k + 1, av, h, nd => by
    have gen : ∀ l : List Int, l.Nodup → (∀ x ∈ l, x ∈ av) → (l.flatMap fun x => (perms k (av.erase x)).map (x :: ·)).Nodup := by
      intro l
      induction l with
      | nil => intro _ _; simp
      | cons x l ih =>
        intro ndl sub
        obtain ⟨n1, n2⟩ := List.nodup_cons.mp ndl
        rw [List.flatMap_cons, List.nodup_append]
        refine ⟨?_, ih n2 fun y hy => sub y (List.mem_cons_of_mem _ hy), ?_⟩
        · have := perms_nodup k (av.erase x) (by rw [List.length_erase_of_mem (sub x List.mem_cons_self)]; omega) (nd.erase x)
          rw [List.nodup_iff_pairwise_ne, List.pairwise_map]
          exact (List.nodup_iff_pairwise_ne.mp this).imp fun h e => h (by injection e)
        · intro a ha b hb e
          obtain ⟨r, _, rfl⟩ := List.mem_map.mp ha
          obtain ⟨y, hy, hb2⟩ := List.mem_flatMap.mp hb
          obtain ⟨s, _, rfl⟩ := List.mem_map.mp hb2
          injection e with e1 _
          exact n1 (by rw [e1]; exact hy)
    unfold perms
    exact gen av nd fun _ h => h
def allArr (n : Nat) : List (List Int) := perms n (iota n)
theorem all_mem {n : Nat} {a : List Int} : a ∈ allArr n ↔ Arr n a := perms_mem n (iota n) (iota_len n) a
theorem all_len (n : Nat) : (allArr n).length = fact n := perms_len n (iota n) (iota_len n)
theorem all_nodup (n : Nat) : (allArr n).Nodup := perms_nodup n (iota n) (iota_len n) (iota_nodup n)
theorem arr_le {n : Nat} {R : List (List Int)} (nd : R.Nodup) (ar : ∀ r ∈ R, Arr n r) : R.length ≤ fact n := by
  rw [← all_len n]
  exact len_le_of_sub nd fun r hr => all_mem.mpr (ar r hr)
theorem arr_dvd {n : Nat} {R : List (List Int)} (nd : R.Nodup) (ar : ∀ r ∈ R, Arr n r) (one : iota n ∈ R) (mul : ∀ r ∈ R, ∀ s ∈ R, comp r s ∈ R) : R.length ∣ fact n := by
  rw [← all_len n]
  exact coset_dvd nd ar one mul _ (allArr n) (Nat.le_refl _) (all_nodup n) (fun p hp => all_mem.mp hp) fun p hp r hr => all_mem.mpr (comp_arr (all_mem.mp hp) (ar r hr))

/-! one move: the one at place i goes to place g[i] -/
def setAll (f : List Int) (ps : List (Nat × Int)) : List Int := ps.foldl (fun f p => f.set p.1 p.2) f
def dn (a : List Int) (g : List Nat) : List Int := setAll a (g.zip a)
theorem setAll_len : ∀ (ps : List (Nat × Int)) (f : List Int), (setAll f ps).length = f.length
  | [], _ => rfl
  | p :: ps, f => by
    show (setAll (f.set p.1 p.2) ps).length = _
    rw [setAll_len ps, List.length_set]
theorem setAll_out : ∀ (ps : List (Nat × Int)) (f : List Int) (j : Nat), j ∉ ps.map (·.1) → (setAll f ps)[j]? = f[j]?
  | [], _, _, _ => rfl
  | p :: ps, f, j, h => by
    rw [List.map_cons, List.mem_cons, not_or] at h
    show (setAll (f.set p.1 p.2) ps)[j]? = _
    rw [setAll_out ps _ j h.2, List.getElem?_set_ne (Ne.symm h.1)]
theorem setAll_in : ∀ (ps : List (Nat × Int)) (f : List Int), (ps.map (·.1)).Nodup → (∀ p ∈ ps, p.1 < f.length) → ∀ p ∈ ps, (setAll f ps)[p.1]? = some p.2
  | q :: ps, f, nd, b, p, hp => by
    rw [List.map_cons, List.nodup_cons] at nd
    show (setAll (f.set q.1 q.2) ps)[p.1]? = _
    rcases List.mem_cons.mp hp with rfl | hp
    · rw [setAll_out ps _ _ nd.1, List.getElem?_set_self (b _ List.mem_cons_self)]
    · exact setAll_in ps _ nd.2 (fun x hx => by rw [List.length_set]; exact b x (List.mem_cons_of_mem _ hx)) p hp
theorem setAll_map (h : Int → Int) : ∀ (ps : List (Nat × Int)) (f : List Int), setAll (f.map h) (ps.map fun p => (p.1, h p.2)) = (setAll f ps).map h
  | [], _ => rfl
  | p :: ps, f => by
    show setAll ((f.map h).set p.1 (h p.2)) (ps.map fun p => (p.1, h p.2)) = _
    rw [← List.map_set, setAll_map h ps]
    rfl
theorem dn_len (a : List Int) (g : List Nat) : (dn a g).length = a.length := setAll_len _ _
theorem dn_comp (p r : List Int) (g : List Nat) : dn (comp p r) g = comp p (dn r g) := by
  unfold dn comp
  rw [← setAll_map]
  congr 1
  rw [List.zip_map_right]
  rfl
/-- what a list of goals must be -/
structure Gd (n : Nat) (g : List Nat) : Prop where
  len : g.length = n
  nd : g.Nodup
  lt : ∀ x ∈ g, x < n
theorem Gd.onto {n : Nat} {g : List Nat} (h : Gd n g) {x : Nat} (hx : x < n) : ∃ i, ∃ (hi : i < g.length), g[i] = x := by
  have perm : g.Perm (List.range n) := perm_of_sub h.nd (fun y hy => List.mem_range.mpr (h.lt y hy)) (by rw [List.length_range, h.len]; exact Nat.le_refl _)
  have hm : x ∈ g := perm.mem_iff.mpr (List.mem_range.mpr hx)
  obtain ⟨i, hi, e⟩ := List.mem_iff_getElem.mp hm
  exact ⟨i, hi, e⟩
theorem dn_get {n : Nat} {a : List Int} {g : List Nat} (ha : a.length = n) (hg : Gd n g) {i : Nat} (hi : i < n) : (dn a g)[g[i]'(by rw [hg.len]; exact hi)]? = a[i]? := by
  have l1 : i < g.length := by rw [hg.len]; exact hi
  have l2 : i < a.length := by rw [ha]; exact hi
  have hz : (g.zip a)[i]? = some (g[i], a[i]) := by
    rw [List.getElem?_zip_eq_some]
    exact ⟨List.getElem?_eq_getElem l1, List.getElem?_eq_getElem l2⟩
  have keys : (g.zip a).map (·.1) = g := List.map_fst_zip (by rw [hg.len, ha]; exact Nat.le_refl _)
  have := setAll_in (g.zip a) a (by rw [keys]; exact hg.nd) (fun p hp => by
    have : p.1 ∈ g := by
      rw [← keys]
      exact List.mem_map.mpr ⟨p, hp, rfl⟩
    rw [ha]
    exact hg.lt _ this) _ (List.mem_of_getElem? hz)
  rw [List.getElem?_eq_getElem l2]
  exact this
theorem dn_arr {n : Nat} {a : List Int} {g : List Nat} (ha : Arr n a) (hg : Gd n g) : Arr n (dn a g) := by
  have at_ : ∀ (j : Nat) (hj : j < (dn a g).length), ∃ (i : Nat) (hi : i < a.length), (dn a g)[j] = a[i] ∧ ∃ (h : i < g.length), g[i] = j := by
    intro j hj
    rw [dn_len, ha.len] at hj
    obtain ⟨i, hi, e⟩ := hg.onto hj
    have hin : i < n := by rw [← hg.len]; exact hi
    have l2 : i < a.length := by rw [ha.len]; exact hin
    refine ⟨i, l2, ?_, hi, e⟩
    have h1 := dn_get ha.len hg hin
    rw [List.getElem?_eq_getElem l2] at h1
    obtain ⟨_, h2⟩ := List.getElem?_eq_some_iff.mp h1
    rw [← h2]
    congr 1
    exact e.symm
  refine Arr.of ?_ (by rw [dn_len, ha.len]) fun x hx => ?_
  · rw [List.nodup_iff_pairwise_ne, List.pairwise_iff_getElem]
    intro j k hj hk lt e
    obtain ⟨i1, h1, e1, g1, f1⟩ := at_ j hj
    obtain ⟨i2, h2, e2, g2, f2⟩ := at_ k hk
    have : a[i1] = a[i2] := by rw [← e1, ← e2, e]
    have := (List.getElem_inj ha.nodup).mp this
    subst this
    omega
  · obtain ⟨j, hj, rfl⟩ := List.mem_iff_getElem.mp hx
    obtain ⟨i, hi, e, _⟩ := at_ j hj
    rw [e]
    exact ha.mem.mp (List.getElem_mem hi)
theorem dn_inj {n : Nat} {a b : List Int} {g : List Nat} (ha : a.length = n) (hb : b.length = n) (hg : Gd n g) (e : dn a g = dn b g) : a = b := by
  refine List.ext_getElem? fun i => ?_
  by_cases hi : i < n
  · rw [← dn_get ha hg hi, ← dn_get hb hg hi, e]
  · rw [List.getElem?_eq_none (by omega), List.getElem?_eq_none (by omega)]
theorem dn_undo {n : Nat} {a : List Int} {g h : List Nat} (ha : a.length = n) (hg : Gd n g) (hh : Gd n h) (u : ∀ (i : Nat) (hi : i < g.length), h[g[i]]? = some i) : dn (dn a g) h = a := by
  refine List.ext_getElem? fun i => ?_
  by_cases hi : i < n
  · have l1 : i < g.length := by rw [hg.len]; exact hi
    have lt : g[i] < n := hg.lt _ (List.getElem_mem l1)
    have h1 := dn_get (a := dn a g) (by rw [dn_len, ha]) hh lt
    obtain ⟨h2, h3⟩ := List.getElem?_eq_some_iff.mp (u i l1)
    rw [dn_get ha hg hi] at h1
    rw [← h1]
    congr 1
    exact h3.symm
  · rw [List.getElem?_eq_none (by rw [dn_len, dn_len]; omega), List.getElem?_eq_none (by omega)]

/-! the keys of a search are a group -/
theorem closed_arr {n : Nat} {gs : List (List Nat)} {m : List (List Int × Nat)} (hg : ∀ g ∈ gs, Gd n g) (c : Closed (gs.map fun g a => dn a g) (iota n) m) : ∀ a ∈ m.map (·.1), Arr n a := by
  intro a h
  rw [c.mem_iff] at h
  obtain ⟨d, r⟩ := h
  induction r with
  | zero => exact List.Perm.refl _
  | step r hf ih =>
    obtain ⟨g, hg', rfl⟩ := List.mem_map.mp hf
    exact dn_arr ih (hg g hg')
theorem closed_dvd {n : Nat} {gs : List (List Nat)} {m : List (List Int × Nat)} (hg : ∀ g ∈ gs, Gd n g) (c : Closed (gs.map fun g a => dn a g) (iota n) m) : m.length ∣ fact n := by
  have ar := closed_arr hg c
  rw [← List.length_map (f := (·.1)) (as := m)]
  refine arr_dvd c.nd ar (List.mem_map.mpr ⟨_, c.st, rfl⟩) fun r hr s hs => ?_
  have hs' := (c.mem_iff s).mp hs
  obtain ⟨d, q⟩ := hs'
  clear hs
  induction q with
  | zero =>
    rw [comp_iota (ar r hr).len]
    exact hr
  | @step d s f q hf ih =>
    obtain ⟨g, hg', rfl⟩ := List.mem_map.mp hf
    show comp r (dn s g) ∈ _
    rw [← dn_comp]
    exact c.into ih (List.mem_map.mpr ⟨g, hg', rfl⟩)
theorem closed_len {n : Nat} {gs : List (List Nat)} {m : List (List Int × Nat)} (hg : ∀ g ∈ gs, Gd n g) (c : Closed (gs.map fun g a => dn a g) (iota n) m) : m.length ≤ fact n := by
  rw [← List.length_map (f := (·.1)) (as := m)]
  exact arr_le c.nd (closed_arr hg c)
end Pup

set_option linter.all false
set_option maxRecDepth 100000
namespace Pup

inductive Cal where
  | all (k : Int) | up (f : Nat) (k : Int) | swap (f g : Nat) | wheel (f g : Nat) (k : Int) | about | front (f g : Nat) | halve | pair | others | fill
  deriving DecidableEq

def Valid (files : Nat) : Cal → Prop
  | .up f _ => f < files
  | .swap f g => f < files ∧ g < files ∧ f ≠ g
  | .front f g => f < files ∧ g < files ∧ f ≠ g
  | .wheel f g _ => f < files ∧ g < files ∧ f ≠ g
  | _ => True
/-- where the program brings -/
def moved (c : Cal) (files rows : Int) (row file : Int) : Int × Int :=
  match c with
  | .all k => ((row - k).fmod rows, file)
  | .up f k => if file = f then ((row - k).fmod rows, file) else (row, file)
  | .about => (rows - 1 - row, files - 1 - file)
  | .wheel f g k =>
    if file = f ∨ file = g then
      let seat := ((if file = f then rows - 1 - row else rows + row) + k).fmod (2 * rows)
      if seat < rows then (rows - 1 - seat, (f : Int)) else (seat - rows, (g : Int))
    else (row, file)
  | .swap f g => if file = f then (row, (g : Int)) else if file = g then (row, (f : Int)) else (row, file)
  | .front f g => if 0 < row then (row, file) else if file = f then (row, (g : Int)) else if file = g then (row, (f : Int)) else (row, file)
  | .halve => ((row * files + file).fmod rows, (row * files + file).fdiv rows)
  | .pair => ((file * rows + row).fdiv files, (file * rows + row).fmod files)
  | .others => if row.fmod 2 = 0 then (row.fdiv 2, file) else ((rows + 1).fdiv 2 + row.fdiv 2, file)
  | .fill => if row < (rows + 1).fdiv 2 then (2 * row, file) else (2 * (row - (rows + 1).fdiv 2) + 1, file)
def undo : Cal → Cal
  | .all k => .all (0 - k)
  | .up f k => .up f (0 - k)
  | .wheel f g k => .wheel f g (0 - k)
  | .halve => .pair
  | .pair => .halve
  | .others => .fill
  | .fill => .others
  | c => c
theorem undo_valid {files : Nat} {c : Cal} (h : Valid files c) : Valid files (undo c) := by
  cases c <;> first | exact h | exact trivial

def goalI (files rows : Nat) (c : Cal) (x : Nat) : Int :=
  let p := moved c files rows ((x : Int).fdiv files) ((x : Int).fmod files)
  p.1 * files + p.2
def goals (files rows : Nat) (c : Cal) : List Nat := (List.range (files * rows)).map fun x => (goalI files rows c x).toNat
/-- the lines of the law -/
def Okl (files rows : Nat) : Prop := (files = 2 ∧ (rows = 1 ∨ rows = 2 ∨ rows = 3)) ∨ (files = 3 ∧ (rows = 1 ∨ rows = 2))

/-- k by 12 -/
def red : Cal → Cal
  | .all k => .all (k % 12)
  | .up f k => .up f (k % 12)
  | .wheel f g k => .wheel f g (k % 12)
  | c => c
theorem fmod_pos {a b : Int} (h : 0 < b) : a.fmod b = a % b := Int.fmod_eq_emod_of_nonneg a (Int.le_of_lt h)
theorem fdiv_pos {a b : Int} (h : 0 < b) : a.fdiv b = a / b := Int.fdiv_eq_ediv_of_nonneg a (Int.le_of_lt h)
theorem moved_red {files rows : Nat} (ok : Okl files rows) (c : Cal) (row file : Int) : moved (red c) files rows row file = moved c files rows row file := by
  have hr : rows = 1 ∨ rows = 2 ∨ rows = 3 := by
    rcases ok with ⟨_, h⟩ | ⟨_, h⟩ <;> omega
  have pos : (0 : Int) < rows := by omega
  have pos2 : (0 : Int) < 2 * rows := by omega
  have m1 : ∀ k : Int, (row - k % 12).fmod rows = (row - k).fmod rows := by
    intro k
    rw [fmod_pos pos, fmod_pos pos]
    rcases hr with rfl | rfl | rfl <;> omega
  have m2 : ∀ k z : Int, (z + k % 12).fmod (2 * rows) = (z + k).fmod (2 * rows) := by
    intro k z
    rw [fmod_pos pos2, fmod_pos pos2]
    rcases hr with rfl | rfl | rfl <;> omega
  cases c <;> simp only [red, moved, m1, m2]
theorem goals_red {files rows : Nat} (ok : Okl files rows) (c : Cal) : goals files rows (red c) = goals files rows c := by
  unfold goals goalI
  simp only [moved_red ok]
theorem goalI_red {files rows : Nat} (ok : Okl files rows) (c : Cal) (x : Nat) : goalI files rows (red c) x = goalI files rows c x := by
  unfold goalI
  simp only [moved_red ok]

/-- all calls with k below 12 -/
def ks : List Int := (List.range 12).map fun (i : Nat) => (i : Int)
def pairsOf (files : Nat) : List (Nat × Nat) := ((List.range files).flatMap fun f => (List.range files).map fun g => (f, g)).filter fun p => decide (p.1 ≠ p.2)
def allCal (files : Nat) : List Cal :=
  ks.map .all ++ ((List.range files).flatMap fun f => ks.map (.up f)) ++ (pairsOf files).map (fun p => .swap p.1 p.2) ++ ((pairsOf files).flatMap fun p => ks.map (.wheel p.1 p.2)) ++
  (pairsOf files).map (fun p => .front p.1 p.2) ++ [.about, .halve, .pair, .others, .fill]
theorem ks_mem (k : Int) : k % 12 ∈ ks := by
  unfold ks
  exact List.mem_map.mpr ⟨(k % 12).toNat, List.mem_range.mpr (by omega), by omega⟩
theorem pairs_mem {files f g : Nat} (h : f < files ∧ g < files ∧ f ≠ g) : (f, g) ∈ pairsOf files := by
  unfold pairsOf
  rw [List.mem_filter]
  refine ⟨List.mem_flatMap.mpr ⟨f, List.mem_range.mpr h.1, List.mem_map.mpr ⟨g, List.mem_range.mpr h.2.1, rfl⟩⟩, decide_eq_true h.2.2⟩
theorem red_mem {files : Nat} {c : Cal} (h : Valid files c) : red c ∈ allCal files := by
  unfold allCal
  simp only [List.mem_append]
  cases c with
  | all k => exact .inl (.inl (.inl (.inl (.inl (List.mem_map.mpr ⟨_, ks_mem k, rfl⟩)))))
  | up f k => exact .inl (.inl (.inl (.inl (.inr (List.mem_flatMap.mpr ⟨f, List.mem_range.mpr h, List.mem_map.mpr ⟨_, ks_mem k, rfl⟩⟩)))))
  | swap f g => exact .inl (.inl (.inl (.inr (List.mem_map.mpr ⟨_, pairs_mem h, rfl⟩))))
  | wheel f g k => exact .inl (.inl (.inr (List.mem_flatMap.mpr ⟨_, pairs_mem h, List.mem_map.mpr ⟨_, ks_mem k, rfl⟩⟩)))
  | front f g => exact .inl (.inr (List.mem_map.mpr ⟨_, pairs_mem h, rfl⟩))
  | about => exact .inr (by simp [red])
  | halve => exact .inr (by simp [red])
  | pair => exact .inr (by simp [red])
  | others => exact .inr (by simp [red])
  | fill => exact .inr (by simp [red])

/-- what is checked of each -/
def okCal (files rows : Nat) (c : Cal) : Bool :=
  let g := goals files rows c
  decide g.Nodup && g.all (fun x => decide (x < files * rows)) && (List.range (files * rows)).all (fun x => decide (0 ≤ goalI files rows c x)) &&
  (List.range (files * rows)).all (fun i => decide ((goals files rows (red (undo c)))[g.getD i 0]? = some i))
theorem check {files rows : Nat} (ok : Okl files rows) : (allCal files).all (okCal files rows) = true := by
  rcases ok with ⟨rfl, rfl | rfl | rfl⟩ | ⟨rfl, rfl | rfl⟩ <;> decide +kernel
theorem red_undo {files rows : Nat} (ok : Okl files rows) (c : Cal) : goals files rows (red (undo (red c))) = goals files rows (undo c) := by
  rw [goals_red ok]
  have e : red (undo (red c)) = red (undo c) := by
    cases c <;> simp only [red, undo] <;> congr 1 <;> omega
  rw [← goals_red ok (undo (red c)), e, goals_red ok]
section
variable {files rows : Nat} {c : Cal} (ok : Okl files rows) (v : Valid files c)
include ok v
theorem ok_red : okCal files rows (red c) = true := List.all_eq_true.mp (check ok) _ (red_mem v)
theorem goals_gd : Gd (files * rows) (goals files rows c) := by
  have h := ok_red ok v
  unfold okCal at h
  rw [goals_red ok] at h
  simp only [Bool.and_eq_true] at h
  obtain ⟨⟨⟨h1, h2⟩, h3⟩, h4⟩ := h
  refine ⟨by simp [goals], of_decide_eq_true h1, fun x hx => of_decide_eq_true (List.all_eq_true.mp h2 x hx)⟩
theorem goalI_nonneg {x : Nat} (hx : x < files * rows) : 0 ≤ goalI files rows c x := by
  have h := ok_red ok v
  unfold okCal at h
  simp only [Bool.and_eq_true] at h
  obtain ⟨⟨⟨h1, h2⟩, h3⟩, h4⟩ := h
  have := of_decide_eq_true (List.all_eq_true.mp h3 x (List.mem_range.mpr hx))
  rw [goalI_red ok] at this
  exact this
theorem goals_at {x : Nat} (hx : x < files * rows) : (goals files rows c)[x]? = some (goalI files rows c x).toNat := by
  unfold goals
  rw [List.getElem?_map, List.getElem?_range hx]
  rfl
theorem goalI_lt {x : Nat} (hx : x < files * rows) : goalI files rows c x < ((files * rows : Nat) : Int) := by
  have h1 := (goals_gd ok v).lt _ (List.mem_of_getElem? (goals_at ok v hx))
  have h2 := goalI_nonneg ok v hx
  omega
theorem goals_undo : ∀ (i : Nat) (hi : i < (goals files rows c).length), (goals files rows (undo c))[(goals files rows c)[i]]? = some i := by
  intro i hi
  have h := ok_red ok v
  unfold okCal at h
  rw [goals_red ok, red_undo ok] at h
  simp only [Bool.and_eq_true] at h
  obtain ⟨⟨⟨h1, h2⟩, h3⟩, h4⟩ := h
  have hn : i < files * rows := by
    rw [← (goals_gd ok v).len]
    exact hi
  have := of_decide_eq_true (List.all_eq_true.mp h4 i (List.mem_range.mpr hn))
  rw [List.getD_eq_getElem?_getD, List.getElem?_eq_getElem hi] at this
  exact this
end

/-! the law's own words -/
def lmoved (c : Cal) (files rows : Int) (row file : Int) : Int × Int :=
  match c with
  | .all k => ((row - k).fmod rows, file)
  | .up f k => if file = f then ((row - k).fmod rows, file) else (row, file)
  | .about => (rows - 1 - row, files - 1 - file)
  | .wheel f g k =>
    if file = f ∨ file = g then
      let seat := ((if file = g then rows + row else rows - 1 - row) + k).fmod (2 * rows)
      if rows ≤ seat then (seat - rows, (g : Int)) else (rows - 1 - seat, (f : Int))
    else (row, file)
  | .swap f g => if file = f ∨ file = g then (row, (f : Int) + g - file) else (row, file)
  | .front f g => if (file = f ∨ file = g) ∧ row = 0 then (row, (f : Int) + g - file) else (row, file)
  | .halve => let number := row * files + file; (number - rows * (number.fdiv rows), number.fdiv rows)
  | .pair => let back := file * rows + row; (back.fdiv files, back - files * (back.fdiv files))
  | .others => (row.fdiv 2 + (rows - rows.fdiv 2) * (row - 2 * row.fdiv 2), file)
  | .fill => let late : Int := if rows - rows.fdiv 2 ≤ row then 1 else 0; (2 * (row - (rows - rows.fdiv 2) * late) + late, file)
theorem fmod_sub {a b : Int} : a - b * a.fdiv b = a.fmod b := by
  have := Int.mul_fdiv_add_fmod a b
  omega
theorem lmoved_eq {files : Nat} {rows row file : Int} {c : Cal} (v : Valid files c) (hr : 0 ≤ row ∧ row < rows) : lmoved c files rows row file = moved c files rows row file := by
  have p2 : (0 : Int) < 2 := by decide
  cases c with
  | all k => rfl
  | up f k => rfl
  | about => rfl
  | wheel f g k =>
    simp only [lmoved, moved]
    obtain ⟨_, _, ne⟩ := v
    by_cases h1 : file = f
    · have h2 : ¬ file = g := by omega
      simp only [h1, true_or, if_true]
      have h3 : ¬ (f : Int) = g := by omega
      simp only [h3, if_false]
      by_cases h4 : (rows - 1 - row + k).fmod (2 * rows) < rows
      · rw [if_pos h4, if_neg (by omega)]
      · rw [if_neg h4, if_pos (by omega)]
    · by_cases h2 : file = g
      · simp only [h2, or_true, if_true]
        have h3 : ¬ (g : Int) = f := by omega
        simp only [h3, if_false]
        by_cases h4 : (rows + row + k).fmod (2 * rows) < rows
        · rw [if_pos h4, if_neg (by omega)]
        · rw [if_neg h4, if_pos (by omega)]
      · rw [if_neg (by omega), if_neg (by omega)]
  | swap f g =>
    simp only [lmoved, moved]
    by_cases h1 : file = f
    · rw [if_pos (.inl h1), if_pos h1]
      congr 1
      omega
    · by_cases h2 : file = g
      · rw [if_pos (.inr h2), if_neg h1, if_pos h2]
        congr 1
        omega
      · rw [if_neg (by omega), if_neg h1, if_neg h2]
  | front f g =>
    simp only [lmoved, moved]
    by_cases h0 : 0 < row
    · rw [if_pos h0, if_neg (by omega)]
    · have z : row = 0 := by omega
      rw [if_neg h0]
      by_cases h1 : file = f
      · rw [if_pos ⟨.inl h1, z⟩, if_pos h1]
        congr 1
        omega
      · by_cases h2 : file = g
        · rw [if_pos ⟨.inr h2, z⟩, if_neg h1, if_pos h2]
          congr 1
          omega
        · rw [if_neg (by omega), if_neg h1, if_neg h2]
  | halve => simp only [lmoved, moved, fmod_sub]
  | pair => simp only [lmoved, moved, fmod_sub]
  | others =>
    simp only [lmoved, moved, fmod_pos p2, fdiv_pos p2]
    by_cases h : row % 2 = 0
    · have e : row - 2 * (row / 2) = 0 := by omega
      rw [if_pos h, e, Int.mul_zero, Int.add_zero]
    · have e : row - 2 * (row / 2) = 1 := by omega
      rw [if_neg h, e, Int.mul_one]
      congr 1
      omega
  | fill =>
    simp only [lmoved, moved, fdiv_pos p2]
    by_cases h : row < (rows + 1) / 2
    · rw [if_pos h, if_neg (by omega)]
      congr 1
      omega
    · rw [if_neg h, if_pos (by omega)]
      congr 1
      omega
end Pup

set_option Elab.async false
set_option linter.all false
set_option maxRecDepth 100000
set_option maxHeartbeats 1000000
namespace Pup
open PySem PySem.Spec PyProof.Rows L2

def topS (i : Nat) : Stmt := PySem.Challenge.pw_pupilpairs_k88_whole_levels_and_bounds.main.body.getD i (.Pass ⟨0, 0, 0, 0⟩)
abbrev st_is_integer : Stmt := topS 1
abbrev ps_is_integer : List Str := ["thing"]
abbrev N_is_integer : List Str := ["thing"]
theorem sc_is_integer : FnScope N_is_integer ps_is_integer (defScope st_is_integer) := ⟨rfl, rfl, rfl, by decide +kernel, rfl, by decide +kernel, by decide +kernel⟩
abbrev st_is_index : Stmt := topS 2
abbrev ps_is_index : List Str := ["thing", "many"]
abbrev N_is_index : List Str := ["thing", "many"]
theorem sc_is_index : FnScope N_is_index ps_is_index (defScope st_is_index) := ⟨rfl, rfl, rfl, by decide +kernel, rfl, by decide +kernel, by decide +kernel⟩
abbrev st_on_wheel : Stmt := topS 4
abbrev ps_on_wheel : List Str := ["call", "rows", "place"]
abbrev N_on_wheel : List Str := ["call", "rows", "place", "row", "file", "seat"]
theorem sc_on_wheel : FnScope N_on_wheel ps_on_wheel (defScope st_on_wheel) := ⟨rfl, rfl, rfl, by decide +kernel, rfl, by decide +kernel, by decide +kernel⟩
abbrev st_on_open : Stmt := topS 5
abbrev ps_on_open : List Str := ["call", "files", "rows", "place"]
abbrev N_on_open : List Str := ["call", "files", "rows", "place", "row", "file", "number", "half"]
theorem sc_on_open : FnScope N_on_open ps_on_open (defScope st_on_open) := ⟨rfl, rfl, rfl, by decide +kernel, rfl, by decide +kernel, by decide +kernel⟩
abbrev st_moved_by : Stmt := topS 6
abbrev ps_moved_by : List Str := ["call", "files", "rows", "place"]
abbrev N_moved_by : List Str := ["call", "files", "rows", "place", "row", "file"]
theorem sc_moved_by : FnScope N_moved_by ps_moved_by (defScope st_moved_by) := ⟨rfl, rfl, rfl, by decide +kernel, rfl, by decide +kernel, by decide +kernel⟩
abbrev st_number_of : Stmt := topS 8
abbrev ps_number_of : List Str := ["files", "place"]
abbrev N_number_of : List Str := ["files", "place"]
theorem sc_number_of : FnScope N_number_of ps_number_of (defScope st_number_of) := ⟨rfl, rfl, rfl, by decide +kernel, rfl, by decide +kernel, by decide +kernel⟩
abbrev st_place_of : Stmt := topS 9
abbrev ps_place_of : List Str := ["files", "number"]
abbrev N_place_of : List Str := ["files", "number"]
theorem sc_place_of : FnScope N_place_of ps_place_of (defScope st_place_of) := ⟨rfl, rfl, rfl, by decide +kernel, rfl, by decide +kernel, by decide +kernel⟩
abbrev st_goals_of : Stmt := topS 11
abbrev ps_goals_of : List Str := ["files", "rows", "call"]
abbrev N_goals_of : List Str := ["files", "rows", "call", "found", "number"]
theorem sc_goals_of : FnScope N_goals_of ps_goals_of (defScope st_goals_of) := ⟨rfl, rfl, rfl, by decide +kernel, rfl, by decide +kernel, by decide +kernel⟩
abbrev st_done : Stmt := topS 12
abbrev ps_done : List Str := ["arrangement", "goals"]
abbrev N_done : List Str := ["arrangement", "goals", "found", "number", "goal"]
theorem sc_done : FnScope N_done ps_done (defScope st_done) := ⟨rfl, rfl, rfl, by decide +kernel, rfl, by decide +kernel, by decide +kernel⟩
abbrev st_is_arrangement : Stmt := topS 13
abbrev ps_is_arrangement : List Str := ["many", "thing"]
abbrev N_is_arrangement : List Str := ["many", "thing", "pupil"]
theorem sc_is_arrangement : FnScope N_is_arrangement ps_is_arrangement (defScope st_is_arrangement) := ⟨rfl, rfl, rfl, by decide +kernel, rfl, by decide +kernel, by decide +kernel⟩
abbrev st_reached : Stmt := topS 14
abbrev ps_reached : List Str := ["files", "rows", "calls"]
abbrev N_reached : List Str := ["files", "rows", "calls", "moves", "start", "found", "level", "later", "arrangement", "index", "goals", "goal", "call"]
theorem sc_reached : FnScope N_reached ps_reached (defScope st_reached) := ⟨rfl, rfl, rfl, by decide +kernel, rfl, by decide +kernel, by decide +kernel⟩
abbrev st_levels : Stmt := topS 15
abbrev ps_levels : List Str := ["files", "rows", "calls"]
abbrev N_levels : List Str := ["files", "rows", "calls", "lengths", "indexes", "many"]
theorem sc_levels : FnScope N_levels ps_levels (defScope st_levels) := ⟨rfl, rfl, rfl, by decide +kernel, rfl, by decide +kernel, by decide +kernel⟩
abbrev st_bounds : Stmt := topS 16
abbrev ps_bounds : List Str := ["files", "rows", "calls"]
abbrev N_bounds : List Str := ["files", "rows", "calls", "found", "arrangement"]
theorem sc_bounds : FnScope N_bounds ps_bounds (defScope st_bounds) := ⟨rfl, rfl, rfl, by decide +kernel, rfl, by decide +kernel, by decide +kernel⟩
abbrev st_is_bound : Stmt := topS 17
abbrev ps_is_bound : List Str := ["files", "rows", "calls", "thing"]
abbrev N_is_bound : List Str := ["files", "rows", "calls", "thing", "many", "moves", "number", "arrangement", "goals", "goal", "call", "key"]
theorem sc_is_bound : FnScope N_is_bound ps_is_bound (defScope st_is_bound) := ⟨rfl, rfl, rfl, by decide +kernel, rfl, by decide +kernel, by decide +kernel⟩
abbrev st_l_bag : Stmt := topS 19
abbrev ps_l_bag : List Str := ["_law_script"]
abbrev N_l_bag : List Str := ["_law_script", "_law_cell"]
theorem sc_l_bag : FnScope N_l_bag ps_l_bag (defScope st_l_bag) := ⟨rfl, rfl, rfl, by decide +kernel, rfl, by decide +kernel, by decide +kernel⟩
abbrev st_l_take : Stmt := topS 20
abbrev ps_l_take : List Str := ["_law_bag_here", "_law_upto"]
abbrev N_l_take : List Str := ["_law_bag_here", "_law_upto", "_law_cell", "_law_mixed_here", "_law_drawn", "_law_begin", "_law_second"]
theorem sc_l_take : FnScope N_l_take ps_l_take (defScope st_l_take) := ⟨rfl, rfl, rfl, by decide +kernel, rfl, by decide +kernel, by decide +kernel⟩
abbrev st_l_one : Stmt := topS 21
abbrev ps_l_one : List Str := ["_law_bag_here", "_law_some"]
abbrev N_l_one : List Str := ["_law_bag_here", "_law_some"]
theorem sc_l_one : FnScope N_l_one ps_l_one (defScope st_l_one) := ⟨rfl, rfl, rfl, by decide +kernel, rfl, by decide +kernel, by decide +kernel⟩
abbrev st_l_mixed : Stmt := topS 22
abbrev ps_l_mixed : List Str := ["_law_bag_here", "_law_things"]
abbrev N_l_mixed : List Str := ["_law_bag_here", "_law_things", "_law_found", "_law_thing"]
theorem sc_l_mixed : FnScope N_l_mixed ps_l_mixed (defScope st_l_mixed) := ⟨rfl, rfl, rfl, by decide +kernel, rfl, by decide +kernel, by decide +kernel⟩
abbrev st_l_alike : Stmt := topS 23
abbrev ps_l_alike : List Str := ["_law_found", "_law_due"]
abbrev N_l_alike : List Str := ["_law_found", "_law_due"]
theorem sc_l_alike : FnScope N_l_alike ps_l_alike (defScope st_l_alike) := ⟨rfl, rfl, rfl, by decide +kernel, rfl, by decide +kernel, by decide +kernel⟩
abbrev st_l_call : Stmt := topS 24
abbrev ps_l_call : List Str := ["_law_bag_here", "_law_files", "_law_kinds", "_law_most"]
abbrev N_l_call : List Str := ["_law_bag_here", "_law_files", "_law_kinds", "_law_most", "_law_word", "_law_pair", "_law_k"]
theorem sc_l_call : FnScope N_l_call ps_l_call (defScope st_l_call) := ⟨rfl, rfl, rfl, by decide +kernel, rfl, by decide +kernel, by decide +kernel⟩
abbrev st_l_open : Stmt := topS 25
abbrev ps_l_open : List Str := ["_law_word", "_law_files", "_law_rows", "_law_place"]
abbrev N_l_open : List Str := ["_law_word", "_law_files", "_law_rows", "_law_place", "_law_number", "_law_half", "_law_back", "_law_odd", "_law_late"]
theorem sc_l_open : FnScope N_l_open ps_l_open (defScope st_l_open) := ⟨rfl, rfl, rfl, by decide +kernel, rfl, by decide +kernel, by decide +kernel⟩
abbrev st_l_goes : Stmt := topS 26
abbrev ps_l_goes : List Str := ["_law_call_here", "_law_files", "_law_rows", "_law_place"]
abbrev N_l_goes : List Str := ["_law_call_here", "_law_files", "_law_rows", "_law_place", "_law_word", "_law_row", "_law_file", "_law_seat"]
theorem sc_l_goes : FnScope N_l_goes ps_l_goes (defScope st_l_goes) := ⟨rfl, rfl, rfl, by decide +kernel, rfl, by decide +kernel, by decide +kernel⟩
abbrev st_l_undo : Stmt := topS 27
abbrev ps_l_undo : List Str := ["_law_calls"]
abbrev N_l_undo : List Str := ["_law_calls", "_law_words", "_law_found", "_law_call_here"]
theorem sc_l_undo : FnScope N_l_undo ps_l_undo (defScope st_l_undo) := ⟨rfl, rfl, rfl, by decide +kernel, rfl, by decide +kernel, by decide +kernel⟩
abbrev st_l_small : Stmt := topS 28
abbrev ps_l_small : List Str := ["_law_bag_here"]
abbrev N_l_small : List Str := ["_law_bag_here", "_law_files", "_law_rows", "_law_kinds", "_law_found", "_law_k", "_law_call_here"]
theorem sc_l_small : FnScope N_l_small ps_l_small (defScope st_l_small) := ⟨rfl, rfl, rfl, by decide +kernel, rfl, by decide +kernel, by decide +kernel⟩
abbrev st_l_done : Stmt := topS 29
abbrev ps_l_done : List Str := ["_law_files", "_law_rows", "_law_arrangement", "_law_call_here"]
abbrev N_l_done : List Str := ["_law_files", "_law_rows", "_law_arrangement", "_law_call_here", "_law_found", "_law_number", "_law_row", "_law_file"]
theorem sc_l_done : FnScope N_l_done ps_l_done (defScope st_l_done) := ⟨rfl, rfl, rfl, by decide +kernel, rfl, by decide +kernel, by decide +kernel⟩
abbrev st_l_reached : Stmt := topS 30
abbrev ps_l_reached : List Str := ["_law_files", "_law_rows", "_law_calls"]
abbrev N_l_reached : List Str := ["_law_files", "_law_rows", "_law_calls", "_law_start", "_law_found", "_law_level", "_law_later", "_law_arrangement", "_law_index", "_law_goal"]
theorem sc_l_reached : FnScope N_l_reached ps_l_reached (defScope st_l_reached) := ⟨rfl, rfl, rfl, by decide +kernel, rfl, by decide +kernel, by decide +kernel⟩
abbrev st_law : Stmt := topS 31
abbrev ps_law : List Str := ["_law_script"]
abbrev N_law : List Str := ["_law_script", "_law_bag_here", "_law_turn", "_law_files", "_law_rows", "_law_calls", "_law_table", "_law_due", "_law_numbers", "_law_again", "_law_found", "_law_told", "_law_more", "_law_one_here", "_law_many", "_law_call_here"]
theorem sc_law : FnScope N_law ps_law (defScope st_law) := ⟨rfl, rfl, rfl, by decide +kernel, rfl, by decide +kernel, by decide +kernel⟩

/-- what the top leaves -/
structure Txt (K : PySem.W.Frag) (mg : Str → Option Value) where
  f_is_integer : Addr
  d_is_integer : FuncData
  F_is_integer : Fun K "is_integer" "is_integer" st_is_integer f_is_integer d_is_integer
  g_is_integer : mg "is_integer" = some (.ref f_is_integer)
  b_is_integer : Binds K d_is_integer ps_is_integer []
  f_is_index : Addr
  d_is_index : FuncData
  F_is_index : Fun K "is_index" "is_index" st_is_index f_is_index d_is_index
  g_is_index : mg "is_index" = some (.ref f_is_index)
  b_is_index : Binds K d_is_index ps_is_index []
  f_on_wheel : Addr
  d_on_wheel : FuncData
  F_on_wheel : Fun K "on_wheel" "on_wheel" st_on_wheel f_on_wheel d_on_wheel
  g_on_wheel : mg "on_wheel" = some (.ref f_on_wheel)
  b_on_wheel : Binds K d_on_wheel ps_on_wheel []
  f_on_open : Addr
  d_on_open : FuncData
  F_on_open : Fun K "on_open" "on_open" st_on_open f_on_open d_on_open
  g_on_open : mg "on_open" = some (.ref f_on_open)
  b_on_open : Binds K d_on_open ps_on_open []
  f_moved_by : Addr
  d_moved_by : FuncData
  F_moved_by : Fun K "moved_by" "moved_by" st_moved_by f_moved_by d_moved_by
  g_moved_by : mg "moved_by" = some (.ref f_moved_by)
  b_moved_by : Binds K d_moved_by ps_moved_by []
  f_number_of : Addr
  d_number_of : FuncData
  F_number_of : Fun K "number_of" "number_of" st_number_of f_number_of d_number_of
  g_number_of : mg "number_of" = some (.ref f_number_of)
  b_number_of : Binds K d_number_of ps_number_of []
  f_place_of : Addr
  d_place_of : FuncData
  F_place_of : Fun K "place_of" "place_of" st_place_of f_place_of d_place_of
  g_place_of : mg "place_of" = some (.ref f_place_of)
  b_place_of : Binds K d_place_of ps_place_of []
  f_goals_of : Addr
  d_goals_of : FuncData
  F_goals_of : Fun K "goals_of" "goals_of" st_goals_of f_goals_of d_goals_of
  g_goals_of : mg "goals_of" = some (.ref f_goals_of)
  b_goals_of : Binds K d_goals_of ps_goals_of []
  f_done : Addr
  d_done : FuncData
  F_done : Fun K "done" "done" st_done f_done d_done
  g_done : mg "done" = some (.ref f_done)
  b_done : Binds K d_done ps_done []
  f_is_arrangement : Addr
  d_is_arrangement : FuncData
  F_is_arrangement : Fun K "is_arrangement" "is_arrangement" st_is_arrangement f_is_arrangement d_is_arrangement
  g_is_arrangement : mg "is_arrangement" = some (.ref f_is_arrangement)
  b_is_arrangement : Binds K d_is_arrangement ps_is_arrangement []
  f_reached : Addr
  d_reached : FuncData
  F_reached : Fun K "reached" "reached" st_reached f_reached d_reached
  g_reached : mg "reached" = some (.ref f_reached)
  b_reached : Binds K d_reached ps_reached []
  f_levels : Addr
  d_levels : FuncData
  F_levels : Fun K "levels" "levels" st_levels f_levels d_levels
  g_levels : mg "levels" = some (.ref f_levels)
  b_levels : Binds K d_levels ps_levels []
  f_bounds : Addr
  d_bounds : FuncData
  F_bounds : Fun K "bounds" "bounds" st_bounds f_bounds d_bounds
  g_bounds : mg "bounds" = some (.ref f_bounds)
  b_bounds : Binds K d_bounds ps_bounds []
  f_is_bound : Addr
  d_is_bound : FuncData
  F_is_bound : Fun K "is_bound" "is_bound" st_is_bound f_is_bound d_is_bound
  g_is_bound : mg "is_bound" = some (.ref f_is_bound)
  b_is_bound : Binds K d_is_bound ps_is_bound []
  f_l_bag : Addr
  d_l_bag : FuncData
  F_l_bag : Fun K "_law_bag" "_law_bag" st_l_bag f_l_bag d_l_bag
  g_l_bag : mg "_law_bag" = some (.ref f_l_bag)
  b_l_bag : Binds K d_l_bag ps_l_bag []
  f_l_take : Addr
  d_l_take : FuncData
  F_l_take : Fun K "_law_take" "_law_take" st_l_take f_l_take d_l_take
  g_l_take : mg "_law_take" = some (.ref f_l_take)
  b_l_take : Binds K d_l_take ps_l_take []
  f_l_one : Addr
  d_l_one : FuncData
  F_l_one : Fun K "_law_one" "_law_one" st_l_one f_l_one d_l_one
  g_l_one : mg "_law_one" = some (.ref f_l_one)
  b_l_one : Binds K d_l_one ps_l_one []
  f_l_mixed : Addr
  d_l_mixed : FuncData
  F_l_mixed : Fun K "_law_mixed" "_law_mixed" st_l_mixed f_l_mixed d_l_mixed
  g_l_mixed : mg "_law_mixed" = some (.ref f_l_mixed)
  b_l_mixed : Binds K d_l_mixed ps_l_mixed []
  f_l_alike : Addr
  d_l_alike : FuncData
  F_l_alike : Fun K "_law_alike" "_law_alike" st_l_alike f_l_alike d_l_alike
  g_l_alike : mg "_law_alike" = some (.ref f_l_alike)
  b_l_alike : Binds K d_l_alike ps_l_alike []
  f_l_call : Addr
  d_l_call : FuncData
  F_l_call : Fun K "_law_call" "_law_call" st_l_call f_l_call d_l_call
  g_l_call : mg "_law_call" = some (.ref f_l_call)
  b_l_call : Binds K d_l_call ps_l_call []
  f_l_open : Addr
  d_l_open : FuncData
  F_l_open : Fun K "_law_open" "_law_open" st_l_open f_l_open d_l_open
  g_l_open : mg "_law_open" = some (.ref f_l_open)
  b_l_open : Binds K d_l_open ps_l_open []
  f_l_goes : Addr
  d_l_goes : FuncData
  F_l_goes : Fun K "_law_goes" "_law_goes" st_l_goes f_l_goes d_l_goes
  g_l_goes : mg "_law_goes" = some (.ref f_l_goes)
  b_l_goes : Binds K d_l_goes ps_l_goes []
  f_l_undo : Addr
  d_l_undo : FuncData
  F_l_undo : Fun K "_law_undo" "_law_undo" st_l_undo f_l_undo d_l_undo
  g_l_undo : mg "_law_undo" = some (.ref f_l_undo)
  b_l_undo : Binds K d_l_undo ps_l_undo []
  f_l_small : Addr
  d_l_small : FuncData
  F_l_small : Fun K "_law_small" "_law_small" st_l_small f_l_small d_l_small
  g_l_small : mg "_law_small" = some (.ref f_l_small)
  b_l_small : Binds K d_l_small ps_l_small []
  f_l_done : Addr
  d_l_done : FuncData
  F_l_done : Fun K "_law_done" "_law_done" st_l_done f_l_done d_l_done
  g_l_done : mg "_law_done" = some (.ref f_l_done)
  b_l_done : Binds K d_l_done ps_l_done []
  f_l_reached : Addr
  d_l_reached : FuncData
  F_l_reached : Fun K "_law_reached" "_law_reached" st_l_reached f_l_reached d_l_reached
  g_l_reached : mg "_law_reached" = some (.ref f_l_reached)
  b_l_reached : Binds K d_l_reached ps_l_reached []
  f_law : Addr
  d_law : FuncData
  F_law : Fun K "law" "law" st_law f_law d_law
  g_law : mg "law" = some (.ref f_law)
  b_law : Binds K d_law ps_law []
  n_isinstance : mg "isinstance" = none
  n_int : mg "int" = none
  n_bool : mg "bool" = none
  n_tuple : mg "tuple" = none
  n_len : mg "len" = none
  n_all : mg "all" = none
  n_set : mg "set" = none
  n_range : mg "range" = none
  n_list : mg "list" = none
  n_enumerate : mg "enumerate" = none
  n_dict : mg "dict" = none
  n_sorted : mg "sorted" = none
  n_max : mg "max" = none
  n_abs : mg "abs" = none
  n_repr : mg "repr" = none
end Pup

set_option Elab.async false
set_option linter.all false
set_option maxRecDepth 100000
set_option maxHeartbeats 1000000
namespace Pup
open PySem PySem.Spec PyProof.Rows L2
section
variable {P : Program} {w : World} {K : PySem.W.Frag} {mg : Str → Option Value} {base : Heap}

/-! number_of, place_of -/
def sp_number_of (K : PySem.W.Frag) : Sp := fun vs H Q _ => ∃ (p : Addr) (n r f : Int), vs = [.int n, .ref p] ∧ SqT K H p [.int r, .int f] ∧ -(2 ^ 64) < n ∧ n < 2 ^ 64 ∧ Q (.int (r * n + f)) H
theorem ok_number_of (T : Txt K mg) : FnOk P w K mg base CX0 1 T.f_number_of T.d_number_of ps_number_of (sp_number_of K) := by
  refine T.F_number_of.ok sc_number_of (fun vs H Q E h => ?_) (fun cdv A outer s H vs Q E hr h => ?_)
  · obtain ⟨p, n, r, f, rfl, _⟩ := h
    rfl
  · obtain ⟨p, n, r, f, rfl, hp, lo, hi, q⟩ := h
    refine ⟨_, pss_one (ps_ret (pe_op op_add (pe_op op_mul (pe_ix ix_tup (pv 1) pe_int (fun _ _ => rfl)) (pv 0)) (pe_ix ix_tup (pv 1) pe_int (fun _ _ => rfl)))), ?_⟩
    refine ⟨.ref p, rfl, p, _, 0, .int r, rfl, rfl, hp, atI_nat (j := 0) rfl, .int n, rfl, r, n, rfl, rfl, .inr ⟨lo, hi⟩, ?_⟩
    refine ⟨.ref p, rfl, p, _, 1, .int f, rfl, rfl, hp, atI_nat (j := 1) rfl, _, f, rfl, rfl, q⟩

def sp_place_of : Sp := fun vs H Q _ => ∃ (n x : Int), vs = [.int n, .int x] ∧ 0 < n ∧ n < 1000 ∧ ∀ p, H p = none → Q (.ref p) (upd H p (.tup [.int (x.fdiv n), .int (x.fmod n)]))
theorem ok_place_of (T : Txt K mg) : FnOk P w K mg base CX0 1 T.f_place_of T.d_place_of ps_place_of sp_place_of := by
  refine T.F_place_of.ok sc_place_of (fun vs H Q E h => ?_) (fun cdv A outer s H vs Q E hr h => ?_)
  · obtain ⟨n, x, rfl, _⟩ := h
    rfl
  · obtain ⟨n, x, rfl, lo, hi, q⟩ := h
    refine ⟨_, pss_one (ps_ret (pe_tup (pa_cons (pe_op op_fdivN (pv 1) (pv 0)) (pa_cons (pe_op op_modN (pv 1) (pv 0)) pa_nil)))), ?_⟩
    refine ⟨.int x, rfl, .int n, rfl, x, n, rfl, rfl, ⟨by omega, by omega⟩, ?_⟩
    refine ⟨.int x, rfl, .int n, rfl, x, n, rfl, rfl, by omega, ?_⟩
    exact ⟨by show 2 ≤ sizeLine; decide, q⟩

/-! is_integer, is_index: of ints -/
def sp_is_integer : Sp := fun vs H Q _ => ∃ (i : Int), vs = [.int i] ∧ Q (.bl true) H
theorem ok_is_integer (T : Txt K mg) : FnOk P w K mg base CX0 1 T.f_is_integer T.d_is_integer ps_is_integer sp_is_integer := by
  refine T.F_is_integer.ok sc_is_integer (fun vs H Q E h => ?_) (fun cdv A outer s H vs Q E hr h => ?_)
  · obtain ⟨i, rfl, _⟩ := h
    rfl
  · obtain ⟨i, rfl, q⟩ := h
    refine ⟨_, pss_one (ps_ret (pe_and (pe_callB call_isi (by rfl) T.n_isinstance (by decide +kernel) (pa_cons (pv 0) (pa_cons (pe_bltn (v := .ty "int") (by rfl) T.n_int (by decide +kernel) rfl) pa_nil)))
      (pe_one (pe_not (pe_callB call_isi (by rfl) T.n_isinstance (by decide +kernel) (pa_cons (pv 0) (pa_cons (pe_bltn (v := .ty "bool") (by rfl) T.n_bool (by decide +kernel) rfl) pa_nil))))))), ?_⟩
    refine ⟨.int i, rfl, .int i, .ty "int", .type "int", .type "int", true, rfl, .ty _, .base (.int i), kit_ty (by decide +kernel), true, rfl, iteT ?_⟩
    exact ⟨.int i, rfl, .int i, .ty "bool", .type "int", .type "bool", false, rfl, .ty _, .base (.int i), kit_ty (by decide +kernel), false, rfl, q⟩

/-- an index that is one -/
def sp_is_index : Sp := fun vs H Q _ => ∃ (i n : Int), vs = [.int i, .int n] ∧ 0 ≤ i ∧ i < n ∧ Q (.bl true) H
theorem ok_is_index (T : Txt K mg) : FnOk P w K mg base CX0 2 T.f_is_index T.d_is_index ps_is_index sp_is_index := by
  refine T.F_is_index.ok sc_is_index (fun vs H Q E h => ?_) (fun cdv A outer s H vs Q E hr h => ?_)
  · obtain ⟨i, n, rfl, _⟩ := h
    rfl
  · obtain ⟨i, n, rfl, lo, hi, q⟩ := h
    refine ⟨_, pss_one (ps_ret (pe_and (pe_call (ok_is_integer T) hr (by rfl) T.g_is_integer T.F_is_integer.kp T.b_is_integer .nil pass0 (pa_cons (pv 0) pa_nil)) (pe_one (pe_chain op_le op_lt pe_int (pv 0) (pv 1))))), ?_⟩
    refine ⟨.int i, rfl, i, rfl, true, rfl, iteT ?_⟩
    refine ⟨.int i, rfl, 0, i, rfl, rfl, _, rfl, ?_⟩
    rw [decide_eq_true lo]
    refine iteT ⟨.int n, rfl, i, n, rfl, rfl, ?_⟩
    show Q (V.bl (decide (i < n))) H
    rw [decide_eq_true hi]
    exact q
end
end Pup

set_option Elab.async false
set_option linter.all false
set_option maxRecDepth 100000
set_option maxHeartbeats 1000000
namespace Pup
open PySem PySem.Spec PyProof.Rows L2

theorem iteD_no {c A B : Prop} [Decidable c] (h : ¬ c) (b : B) : if decide c = true then A else B := by
  rw [decide_eq_false h]
  exact iteF b
theorem iteD_yes {c A B : Prop} [Decidable c] (h : c) (a : A) : if decide c = true then A else B := by
  rw [decide_eq_true h]
  exact iteT a
theorem iteB_no {b : Bool} {A B : Prop} (h : b = false) (q : B) : if b = true then A else B := by
  rw [h]
  exact iteF q
theorem iteB_yes {b : Bool} {A B : Prop} (h : b = true) (q : A) : if b = true then A else B := by
  rw [h]
  exact iteT q
theorem inV2 (z f g : Int) : inV (.int z) [.int f, .int g] = decide (z = f ∨ z = g) := by
  show ((f == z) || ((g == z) || false)) = _
  rw [Bool.or_false, Bool.beq_eq_decide_eq, Bool.beq_eq_decide_eq, ← Bool.decide_or]
  congr 1
  apply propext
  constructor
  · rintro (h | h)
    · exact .inl h.symm
    · exact .inr h.symm
  · rintro (h | h)
    · exact .inl h.symm
    · exact .inr h.symm
theorem Same.laid {H : Hp} {p : Addr} {o : HO} (h : H p = none) : L2.Same H (upd H p o) := fun b x e => by
  rw [upd_ne (ne_of_none e h)]
  exact e
theorem Same.tup {K : PySem.W.Frag} {H H' : Hp} {a : Addr} {xs : List V} (e : L2.Same H H') (h : SqT K H a xs) : SqT K H' a xs := by
  rcases h with (h | ⟨o, h⟩) | h
  · exact .inl (.inl (e _ _ h))
  · exact .inl (.inr ⟨o, e _ _ h⟩)
  · exact .inr h

/-- a call as a tuple -/
def cv : Cal → List V
  | .all k => [.str "all", .int k]
  | .up f k => [.str "up", .int f, .int k]
  | .swap f g => [.str "swap", .int f, .int g]
  | .wheel f g k => [.str "wheel", .int f, .int g, .int k]
  | .about => [.str "about"]
  | .front f g => [.str "front", .int f, .int g]
  | .halve => [.str "halve"]
  | .pair => [.str "pair"]
  | .others => [.str "others"]
  | .fill => [.str "fill"]

section
variable {P : Program} {w : World} {K : PySem.W.Frag} {mg : Str → Option Value} {base : Heap}

/-! on_wheel -/
def sp_on_wheel : Sp := fun vs H Q _ => ∃ (t p : Addr) (f g : Nat) (k rows row file : Int), vs = [.ref t, .int rows, .ref p] ∧ H t = some (.tup [.str "wheel", .int f, .int g, .int k]) ∧ H p = some (.tup [.int row, .int file]) ∧ 0 < rows ∧ rows < 1000 ∧
  ∀ H' q, L2.Same H H' → H' q = some (.tup [.int (moved (.wheel f g k) 0 rows row file).1, .int (moved (.wheel f g k) 0 rows row file).2]) → Q (.ref q) H'
theorem ok_on_wheel (T : Txt K mg) : FnOk P w K mg base CX0 1 T.f_on_wheel T.d_on_wheel ps_on_wheel sp_on_wheel := by
  refine T.F_on_wheel.ok sc_on_wheel (fun vs H Q E h => ?_) (fun cdv A outer s H vs Q E hr h => ?_)
  · obtain ⟨t, p, f, g, k, rows, row, file, rfl, _⟩ := h
    rfl
  · obtain ⟨t, p, f, g, k, rows, row, file, rfl, ht, hp, lo, hi, q⟩ := h
    refine ⟨_, pss_cons (ps_asg (pv 2) (pg_tup rfl (pgs_cons (pg_name (i := 3) sc_on_wheel.nd rfl (.inl rfl)) (pgs_cons (pg_name (i := 4) sc_on_wheel.nd rfl (.inl rfl)) pgs_nil))))
      (pss_cons (ps_if (pt_cmpR op_notIn_seq (pv 4) (pe_slice sl_tup (pv 0) (po_some pe_int) (po_some pe_int)) (by rfl)) (pss_one (ps_ret (pv 2))) pss_nil)
      (pss_cons (ps_set (i := 5) sc_on_wheel.nd rfl (.inl rfl) (pe_ifExp (pt_cmpR op_eq (pv 4) (pe_ix ix_tup (pv 0) pe_int (fun _ _ => rfl)) (nomark _)) (pe_op op_sub (pe_op op_sub (pv 1) pe_int) (pv 3)) (pe_op op_add (pv 1) (pv 3))))
      (pss_cons (ps_set (i := 5) sc_on_wheel.nd rfl (.inl rfl) (pe_op op_modN (pe_op op_add (pv 5) (pe_ix ix_tup (pv 0) pe_int (fun _ _ => rfl))) (pe_op op_mul pe_int (pv 1))))
      (pss_one (ps_ret (pe_ifExp (pt_cmpR op_lt (pv 5) (pv 1) (nomark _)) (pe_tup (pa_cons (pe_op op_sub (pe_op op_sub (pv 1) pe_int) (pv 5)) (pa_cons (pe_ix ix_tup (pv 0) pe_int (fun _ _ => rfl)) pa_nil)))
        (pe_tup (pa_cons (pe_op op_sub (pv 5) (pv 1)) (pa_cons (pe_ix ix_tup (pv 0) pe_int (fun _ _ => rfl)) pa_nil))))))))), ?_⟩
    -- row, file = place
    refine ⟨.ref p, rfl, p, _, rfl, SqT.of hp, rfl, .int row, [.int file], rfl, .int file, [], rfl, rfl, ?_⟩
    -- if file not in call[1:3]
    refine ⟨.int file, rfl, .ref t, rfl, 1, rfl, 3, rfl, t, _, rfl, SqT.of ht, (show ¬ (HT.sIx 4 0 (some 1) = 0 ∧ HT.sIx 4 4 (some 3) = 4) by decide), fun c nc => ?_⟩
    have ec : cutV [.str "wheel", .int f, .int g, .int k] (some 1) (some 3) = [.int f, .int g] := rfl
    rw [ec]
    have sm : L2.Same H (upd H c (.tup [.int f, .int g])) := Same.laid nc
    refine ⟨c, _, rfl, .inr (SqT.of upd_same), rfl, rfl, _, rfl, ?_⟩
    rw [if_pos rfl, inV2]
    by_cases hm : file = f ∨ file = g
    · rw [decide_eq_true hm]
      refine iteF ?_
      have ht' := sm _ _ ht
      have qq : ∀ (seat : Int), seat = ((if file = f then rows - 1 - row else rows + row) + k).fmod (2 * rows) → ∀ H' q, L2.Same H H' →
          H' q = some (.tup [.int (if seat < rows then (rows - 1 - seat, (f : Int)) else (seat - rows, (g : Int))).1, .int (if seat < rows then (rows - 1 - seat, (f : Int)) else (seat - rows, (g : Int))).2]) → Q (.ref q) H' := by
        intro seat es H' q0 sm' h'
        refine q H' q0 sm' ?_
        rw [h']
        simp only [moved, if_pos hm, ← es]
      -- the end, from the seat
      have fin : ∀ z : Int, z = (if file = f then rows - 1 - row else rows + row) → tSeq (tAsg (tOp (rI (fun _ j => j ≠ 0) fun i j => .int (i.fmod j)) (tOp (rI0 fun i j => .int (i + j)) (tVar 5) (tOp (rIxT K) (tVar 0) (tC (.int 3)))) (tOp (rI CMul fun i j => .int (i * j)) (tC (.int 2)) (tVar 1))) (gName 5))
          (tRet (tIf (fun σ H Q => tOp (rI0 fun i j => .bl (decide (i < j))) (tVar 5) (tVar 1) σ H fun x H1 => ∃ c, x = .bl c ∧ Q c H1)
            (tTup (tCons (tOp (rI0 fun i j => .int (i - j)) (tOp (rI0 fun i j => .int (i - j)) (tVar 1) (tC (.int 1))) (tVar 5)) (tCons (tOp (rIxT K) (tVar 0) (tC (.int 1))) tNil)))
            (tTup (tCons (tOp (rI0 fun i j => .int (i - j)) (tVar 5) (tVar 1)) (tCons (tOp (rIxT K) (tVar 0) (tC (.int 2))) tNil)))))
          { nx := fun _ H' => Q .non H', rt := Q } [some (.ref t), some (.int rows), some (.ref p), some (.int row), some (.int file), some (.int z)] (upd H c (.tup [.int f, .int g])) := by
        intro z ez
        refine ⟨.int z, rfl, .ref t, rfl, t, _, 3, .int k, rfl, rfl, SqT.of ht', atI_nat (j := 3) rfl, z, k, rfl, rfl, .int rows, rfl, 2, rows, rfl, rfl, .inl ⟨by decide, by decide⟩, _, _, rfl, rfl, by omega, ?_⟩
        refine ⟨_, rfl, .int rows, rfl, _, rows, rfl, rfl, _, rfl, ite2 (fun hlt => ?_) (fun hlt => ?_)⟩
        · have hlt' : (z + k).fmod (2 * rows) < rows := of_decide_eq_true hlt
          refine ⟨.int rows, rfl, rows, 1, rfl, rfl, _, rfl, _, _, rfl, rfl, .ref t, rfl, t, _, 1, .int f, rfl, rfl, SqT.of ht', atI_nat (j := 1) rfl, by show 2 ≤ sizeLine; decide, fun o no => ?_⟩
          refine qq _ rfl _ o (sm.trans (Same.laid no)) ?_
          rw [upd_same, ← ez, if_pos hlt']
        · have hlt' : ¬ (z + k).fmod (2 * rows) < rows := fun z => hlt (decide_eq_true z)
          refine ⟨_, rfl, .int rows, rfl, _, _, rfl, rfl, .ref t, rfl, t, _, 2, .int g, rfl, rfl, SqT.of ht', atI_nat (j := 2) rfl, by show 2 ≤ sizeLine; decide, fun o no => ?_⟩
          refine qq _ rfl _ o (sm.trans (Same.laid no)) ?_
          rw [upd_same, ← ez, if_neg hlt']
      refine ⟨.int file, rfl, .ref t, rfl, t, _, 1, .int f, rfl, rfl, SqT.of ht', atI_nat (j := 1) rfl, rfl, _, rfl, ite2 (fun e => ?_) (fun e => ?_)⟩
      · have e' : file = f := V.int.inj (of_decide_eq_true e)
        refine ⟨.int rows, rfl, rows, 1, rfl, rfl, .int row, rfl, _, row, rfl, rfl, ?_⟩
        exact fin _ (by rw [if_pos e'])
      · have e' : ¬ file = f := fun z => e (decide_eq_true (by rw [z]))
        refine ⟨.int rows, rfl, .int row, rfl, rows, row, rfl, rfl, ?_⟩
        exact fin _ (by rw [if_neg e'])
    · rw [decide_eq_false hm]
      refine iteT ⟨.ref p, rfl, q _ p sm ?_⟩
      rw [sm _ _ hp]
      simp only [moved, if_neg hm]
end
end Pup

set_option Elab.async false
set_option linter.all false
set_option maxRecDepth 100000
set_option maxHeartbeats 2000000
namespace Pup
open PySem PySem.Spec PyProof.Rows L2
section
variable {P : Program} {w : World} {K : PySem.W.Frag} {mg : Str → Option Value} {base : Heap}

def opens (c : Cal) : Prop := c = .halve ∨ c = .pair ∨ c = .others ∨ c = .fill
/-- the answer: a tuple of two ints, nothing else changed -/
def Ans (H : Hp) (Q : VK) (r : Int × Int) : Prop := ∀ H' q, L2.Same H H' → H' q = some (.tup [.int r.1, .int r.2]) → Q (.ref q) H'
theorem Ans.new {H H1 : Hp} {Q : VK} {r : Int × Int} (h : Ans H Q r) (s : L2.Same H H1) {a b : Int} (e : r = (a, b)) : ∀ p, H1 p = none → Q (.ref p) (upd H1 p (.tup [.int a, .int b])) := by
  intro p hp
  refine h _ p (s.trans (Same.laid hp)) ?_
  rw [upd_same, e]

def sp_on_open : Sp := fun vs H Q _ => ∃ (t p : Addr) (c : Cal) (files rows row file : Int), vs = [.ref t, .int files, .int rows, .ref p] ∧ opens c ∧ H t = some (.tup (cv c)) ∧ H p = some (.tup [.int row, .int file]) ∧
  0 < rows ∧ rows < 1000 ∧ 0 < files ∧ files < 1000 ∧ Ans H Q (moved c files rows row file)
theorem ok_on_open (T : Txt K mg) : FnOk P w K mg base CX0 1 T.f_on_open T.d_on_open ps_on_open sp_on_open := by
  refine T.F_on_open.ok sc_on_open (fun vs H Q E h => ?_) (fun cdv A outer s H vs Q E hr h => ?_)
  · obtain ⟨t, p, c, files, rows, row, file, rfl, _⟩ := h
    rfl
  · obtain ⟨t, p, c, files, rows, row, file, rfl, hc, ht, hp, r0, r1, f0, f1, q⟩ := h
    refine ⟨_, pss_cons (ps_asg (pv 3) (pg_tup rfl (pgs_cons (pg_name (i := 4) sc_on_open.nd rfl (.inl rfl)) (pgs_cons (pg_name (i := 5) sc_on_open.nd rfl (.inl rfl)) pgs_nil))))
      (pss_cons (ps_if (pt_cmpR op_eq (pe_ix ix_tup (pv 0) pe_int (fun _ _ => rfl)) pe_str (nomark _))
        (pss_cons (ps_set (i := 6) sc_on_open.nd rfl (.inl rfl) (pe_op op_add (pe_op op_mul (pv 4) (pv 1)) (pv 5))) (pss_one (ps_ret (pe_tup (pa_cons (pe_op op_modN (pv 6) (pv 2)) (pa_cons (pe_op op_fdivN (pv 6) (pv 2)) pa_nil)))))) pss_nil)
      (pss_cons (ps_if (pt_cmpR op_eq (pe_ix ix_tup (pv 0) pe_int (fun _ _ => rfl)) pe_str (nomark _))
        (pss_cons (ps_set (i := 6) sc_on_open.nd rfl (.inl rfl) (pe_op op_add (pe_op op_mul (pv 5) (pv 2)) (pv 4))) (pss_one (ps_ret (pe_tup (pa_cons (pe_op op_fdivN (pv 6) (pv 1)) (pa_cons (pe_op op_modN (pv 6) (pv 1)) pa_nil)))))) pss_nil)
      (pss_cons (ps_set (i := 7) sc_on_open.nd rfl (.inl rfl) (pe_op op_fdivN (pe_op op_add (pv 2) pe_int) pe_int))
      (pss_cons (ps_if (pt_cmpR op_eq (pe_ix ix_tup (pv 0) pe_int (fun _ _ => rfl)) pe_str (nomark _))
        (pss_one (ps_ret (pe_ifExp (pt_cmpR op_eq (pe_op op_modN (pv 4) pe_int) pe_int (nomark _)) (pe_tup (pa_cons (pe_op op_fdivN (pv 4) pe_int) (pa_cons (pv 5) pa_nil))) (pe_tup (pa_cons (pe_op op_add (pv 7) (pe_op op_fdivN (pv 4) pe_int)) (pa_cons (pv 5) pa_nil)))))) pss_nil)
      (pss_one (ps_ret (pe_ifExp (pt_cmpR op_lt (pv 4) (pv 7) (nomark _)) (pe_tup (pa_cons (pe_op op_mul pe_int (pv 4)) (pa_cons (pv 5) pa_nil))) (pe_tup (pa_cons (pe_op op_add (pe_op op_mul pe_int (pe_op op_sub (pv 4) (pv 7))) pe_int) (pa_cons (pv 5) pa_nil)))))))))), ?_⟩
    refine ⟨.ref p, rfl, p, _, rfl, SqT.of hp, rfl, .int row, [.int file], rfl, .int file, [], rfl, rfl, ?_⟩
    have two : (2 : Nat) ≤ sizeLine := by decide
    have hd2 : CDivN 0 2 := ⟨by decide, by decide⟩
    rcases hc with rfl | rfl | rfl | rfl
    · refine ⟨.ref t, rfl, t, _, 0, .str "halve", rfl, rfl, SqT.of ht, atI_nat (j := 0) rfl, rfl, _, rfl, iteD_yes (by decide +kernel) ?_⟩
      refine ⟨.int row, rfl, .int files, rfl, row, files, rfl, rfl, .inr ⟨by omega, by omega⟩, .int file, rfl, _, file, rfl, rfl, ?_⟩
      refine ⟨_, rfl, .int rows, rfl, _, rows, rfl, rfl, by omega, _, rfl, .int rows, rfl, _, rows, rfl, rfl, ⟨by omega, by omega⟩, two, ?_⟩
      exact q.new (Same.refl _) rfl
    · refine ⟨.ref t, rfl, t, _, 0, .str "pair", rfl, rfl, SqT.of ht, atI_nat (j := 0) rfl, rfl, _, rfl, iteD_no (by decide +kernel) ?_⟩
      refine ⟨.ref t, rfl, t, _, 0, .str "pair", rfl, rfl, SqT.of ht, atI_nat (j := 0) rfl, rfl, _, rfl, iteD_yes (by decide +kernel) ?_⟩
      refine ⟨.int file, rfl, .int rows, rfl, file, rows, rfl, rfl, .inr ⟨by omega, by omega⟩, .int row, rfl, _, row, rfl, rfl, ?_⟩
      refine ⟨_, rfl, .int files, rfl, _, files, rfl, rfl, ⟨by omega, by omega⟩, _, rfl, .int files, rfl, _, files, rfl, rfl, by omega, two, ?_⟩
      exact q.new (Same.refl _) rfl
    · refine ⟨.ref t, rfl, t, _, 0, .str "others", rfl, rfl, SqT.of ht, atI_nat (j := 0) rfl, rfl, _, rfl, iteD_no (by decide +kernel) ?_⟩
      refine ⟨.ref t, rfl, t, _, 0, .str "others", rfl, rfl, SqT.of ht, atI_nat (j := 0) rfl, rfl, _, rfl, iteD_no (by decide +kernel) ?_⟩
      refine ⟨.int rows, rfl, rows, 1, rfl, rfl, _, 2, rfl, rfl, hd2, ?_⟩
      refine ⟨.ref t, rfl, t, _, 0, .str "others", rfl, rfl, SqT.of ht, atI_nat (j := 0) rfl, rfl, _, rfl, iteD_yes (by decide +kernel) ?_⟩
      refine ⟨.int row, rfl, row, 2, rfl, rfl, (show (2 : Int) ≠ 0 by decide), rfl, _, rfl, ite2 (fun e => ?_) (fun e => ?_)⟩
      · have e' : row.fmod 2 = 0 := V.int.inj (of_decide_eq_true e)
        refine ⟨.int row, rfl, row, 2, rfl, rfl, hd2, .int file, rfl, two, ?_⟩
        exact q.new (Same.refl _) (by simp only [moved, if_pos e'])
      · have e' : ¬ row.fmod 2 = 0 := fun z => e (decide_eq_true (congrArg V.int z))
        refine ⟨_, rfl, .int row, rfl, row, 2, rfl, rfl, hd2, _, _, rfl, rfl, .int file, rfl, two, ?_⟩
        exact q.new (Same.refl _) (by simp only [moved, if_neg e'])
    · refine ⟨.ref t, rfl, t, _, 0, .str "fill", rfl, rfl, SqT.of ht, atI_nat (j := 0) rfl, rfl, _, rfl, iteD_no (by decide +kernel) ?_⟩
      refine ⟨.ref t, rfl, t, _, 0, .str "fill", rfl, rfl, SqT.of ht, atI_nat (j := 0) rfl, rfl, _, rfl, iteD_no (by decide +kernel) ?_⟩
      refine ⟨.int rows, rfl, rows, 1, rfl, rfl, _, 2, rfl, rfl, hd2, ?_⟩
      refine ⟨.ref t, rfl, t, _, 0, .str "fill", rfl, rfl, SqT.of ht, atI_nat (j := 0) rfl, rfl, _, rfl, iteD_no (by decide +kernel) ?_⟩
      refine ⟨.int row, rfl, _, rfl, row, _, rfl, rfl, _, rfl, ite2 (fun e => ?_) (fun e => ?_)⟩
      · have e' : row < (rows + 1).fdiv 2 := of_decide_eq_true e
        refine ⟨.int row, rfl, 2, row, rfl, rfl, .inl ⟨by decide, by decide⟩, .int file, rfl, two, ?_⟩
        exact q.new (Same.refl _) (by simp only [moved, if_pos e'])
      · have e' : ¬ row < (rows + 1).fdiv 2 := fun z => e (decide_eq_true z)
        refine ⟨.int row, rfl, _, rfl, row, _, rfl, rfl, 2, _, rfl, rfl, .inl ⟨by decide, by decide⟩, _, 1, rfl, rfl, .int file, rfl, two, ?_⟩
        exact q.new (Same.refl _) (by simp only [moved, if_neg e'])
end
end Pup

set_option Elab.async false
set_option linter.all false
set_option maxRecDepth 100000
set_option maxHeartbeats 4000000
namespace Pup
open PySem PySem.Spec PyProof.Rows L2
section
variable {P : Program} {w : World} {K : PySem.W.Frag} {mg : Str → Option Value} {base : Heap}

def sp_moved_by : Sp := fun vs H Q _ => ∃ (t p : Addr) (c : Cal) (files rows : Nat) (row file : Int), vs = [.ref t, .int files, .int rows, .ref p] ∧ H t = some (.tup (cv c)) ∧ H p = some (.tup [.int row, .int file]) ∧
  0 < rows ∧ rows < 1000 ∧ 0 < files ∧ files < 1000 ∧ Ans H Q (moved c files rows row file)
theorem ok_moved_by (T : Txt K mg) : FnOk P w K mg base CX0 2 T.f_moved_by T.d_moved_by ps_moved_by sp_moved_by := by
  refine T.F_moved_by.ok sc_moved_by (fun vs H Q E h => ?_) (fun cdv A outer s H vs Q E hr h => ?_)
  · obtain ⟨t, p, c, files, rows, row, file, rfl, _⟩ := h
    rfl
  · obtain ⟨t, p, c, files, rows, row, file, rfl, ht, hp, r0, r1, f0, f1, q⟩ := h
    refine ⟨_, pss_cons (ps_asg (pv 3) (pg_tup rfl (pgs_cons (pg_name (i := 4) sc_moved_by.nd rfl (.inl rfl)) (pgs_cons (pg_name (i := 5) sc_moved_by.nd rfl (.inl rfl)) pgs_nil))))
      (pss_cons (ps_if (pt_cmpR op_eq (pe_ix ix_tup (pv 0) pe_int (fun _ _ => rfl)) pe_str (nomark _)) (pss_one (ps_ret (pe_tup (pa_cons (pe_op op_modN (pe_op op_sub (pv 4) (pe_ix ix_tup (pv 0) pe_int (fun _ _ => rfl))) (pv 2)) (pa_cons (pv 5) pa_nil))))) pss_nil)
      (pss_cons (ps_if (pt_cmpR op_eq (pe_ix ix_tup (pv 0) pe_int (fun _ _ => rfl)) pe_str (nomark _)) (pss_one (ps_ret (pe_ifExp (pt_cmpR op_eq (pv 5) (pe_ix ix_tup (pv 0) pe_int (fun _ _ => rfl)) (nomark _)) (pe_tup (pa_cons (pe_op op_modN (pe_op op_sub (pv 4) (pe_ix ix_tup (pv 0) pe_int (fun _ _ => rfl))) (pv 2)) (pa_cons (pv 5) pa_nil))) (pv 3)))) pss_nil)
      (pss_cons (ps_if (pt_cmpR op_eq (pe_ix ix_tup (pv 0) pe_int (fun _ _ => rfl)) pe_str (nomark _)) (pss_one (ps_ret (pe_tup (pa_cons (pe_op op_sub (pe_op op_sub (pv 2) pe_int) (pv 4)) (pa_cons (pe_op op_sub (pe_op op_sub (pv 1) pe_int) (pv 5)) pa_nil))))) pss_nil)
      (pss_cons (ps_if (pt_cmpR op_eq (pe_ix ix_tup (pv 0) pe_int (fun _ _ => rfl)) pe_str (nomark _)) (pss_one (ps_ret (pe_call (ok_on_wheel T) hr (by rfl) T.g_on_wheel T.F_on_wheel.kp T.b_on_wheel .nil pass0 (pa_cons (pv 0) (pa_cons (pv 2) (pa_cons (pv 3) pa_nil)))))) pss_nil)
      (pss_cons (ps_if (pt_cmpR op_in_seq (pe_ix ix_tup (pv 0) pe_int (fun _ _ => rfl)) (pe_tup (pa_cons pe_str (pa_cons pe_str pa_nil))) (by rfl))
        (pss_cons (ps_if (PW.pt (pw_or (pt_cmpR op_notIn_seq (pv 5) (pe_slice sl_tup (pv 0) (po_some pe_int) po_none) (by rfl)) (pw_or1 (PW.pt (pw_and (pt_cmpR op_eq (pe_ix ix_tup (pv 0) pe_int (fun _ _ => rfl)) pe_str (nomark _)) (pw_and1 (pt_cmpR op_gt (pv 4) pe_int (nomark _)))))))) (pss_one (ps_ret (pv 3))) pss_nil)
        (pss_one (ps_ret (pe_tup (pa_cons (pv 4) (pa_cons (pe_ifExp (pt_cmpR op_eq (pv 5) (pe_ix ix_tup (pv 0) pe_int (fun _ _ => rfl)) (nomark _)) (pe_ix ix_tup (pv 0) pe_int (fun _ _ => rfl)) (pe_ix ix_tup (pv 0) pe_int (fun _ _ => rfl))) pa_nil)))))) pss_nil)
      (pss_one (ps_ret (pe_call (ok_on_open T) hr (by rfl) T.g_on_open T.F_on_open.kp T.b_on_open .nil pass0 (pa_cons (pv 0) (pa_cons (pv 1) (pa_cons (pv 2) (pa_cons (pv 3) pa_nil)))))))))))), ?_⟩
    refine ⟨.ref p, rfl, p, _, rfl, SqT.of hp, rfl, .int row, [.int file], rfl, .int file, [], rfl, rfl, ?_⟩
    have two : (2 : Nat) ≤ sizeLine := by decide
    have same := Same.refl H
    have here : ∀ H1, L2.Same H H1 → moved c files rows row file = (row, file) → Q (.ref p) H1 := fun H1 sm e => q H1 p sm (by rw [e]; exact sm _ _ hp)
    cases c with
    | all k =>
      refine ⟨.ref t, rfl, t, _, 0, .str "all", rfl, rfl, SqT.of ht, atI_nat (j := 0) rfl, rfl, _, rfl, iteD_yes (by decide +kernel) ?_⟩
      refine ⟨.int row, rfl, .ref t, rfl, t, _, 1, .int k, rfl, rfl, SqT.of ht, atI_nat (j := 1) rfl, row, k, rfl, rfl, .int rows, rfl, _, rows, rfl, rfl, (show (rows : Int) ≠ 0 by omega), .int file, rfl, two, ?_⟩
      exact q.new same rfl
    | up f k =>
      refine ⟨.ref t, rfl, t, _, 0, .str "up", rfl, rfl, SqT.of ht, atI_nat (j := 0) rfl, rfl, _, rfl, iteD_no (by decide +kernel) ?_⟩
      refine ⟨.ref t, rfl, t, _, 0, .str "up", rfl, rfl, SqT.of ht, atI_nat (j := 0) rfl, rfl, _, rfl, iteD_yes (by decide +kernel) ?_⟩
      refine ⟨.int file, rfl, .ref t, rfl, t, _, 1, .int f, rfl, rfl, SqT.of ht, atI_nat (j := 1) rfl, rfl, _, rfl, ite2 (fun e => ?_) (fun e => ?_)⟩
      · have e' : file = f := V.int.inj (of_decide_eq_true e)
        refine ⟨.int row, rfl, .ref t, rfl, t, _, 2, .int k, rfl, rfl, SqT.of ht, atI_nat (j := 2) rfl, row, k, rfl, rfl, .int rows, rfl, _, rows, rfl, rfl, (show (rows : Int) ≠ 0 by omega), .int file, rfl, two, ?_⟩
        exact q.new same (by simp only [moved, if_pos e'])
      · have e' : ¬ file = f := fun z => e (decide_eq_true (congrArg V.int z))
        exact ⟨.ref p, rfl, here _ same (by simp only [moved, if_neg e'])⟩
    | about =>
      refine ⟨.ref t, rfl, t, _, 0, .str "about", rfl, rfl, SqT.of ht, atI_nat (j := 0) rfl, rfl, _, rfl, iteD_no (by decide +kernel) ?_⟩
      refine ⟨.ref t, rfl, t, _, 0, .str "about", rfl, rfl, SqT.of ht, atI_nat (j := 0) rfl, rfl, _, rfl, iteD_no (by decide +kernel) ?_⟩
      refine ⟨.ref t, rfl, t, _, 0, .str "about", rfl, rfl, SqT.of ht, atI_nat (j := 0) rfl, rfl, _, rfl, iteD_yes (by decide +kernel) ?_⟩
      refine ⟨.int rows, rfl, rows, 1, rfl, rfl, .int row, rfl, _, row, rfl, rfl, .int files, rfl, files, 1, rfl, rfl, .int file, rfl, _, file, rfl, rfl, two, ?_⟩
      exact q.new same rfl
    | wheel f g k =>
      refine ⟨.ref t, rfl, t, _, 0, .str "wheel", rfl, rfl, SqT.of ht, atI_nat (j := 0) rfl, rfl, _, rfl, iteD_no (by decide +kernel) ?_⟩
      refine ⟨.ref t, rfl, t, _, 0, .str "wheel", rfl, rfl, SqT.of ht, atI_nat (j := 0) rfl, rfl, _, rfl, iteD_no (by decide +kernel) ?_⟩
      refine ⟨.ref t, rfl, t, _, 0, .str "wheel", rfl, rfl, SqT.of ht, atI_nat (j := 0) rfl, rfl, _, rfl, iteD_no (by decide +kernel) ?_⟩
      refine ⟨.ref t, rfl, t, _, 0, .str "wheel", rfl, rfl, SqT.of ht, atI_nat (j := 0) rfl, rfl, _, rfl, iteD_yes (by decide +kernel) ?_⟩
      refine ⟨.ref t, rfl, .int rows, rfl, .ref p, rfl, t, p, f, g, k, rows, row, file, rfl, ht, hp, by omega, by omega, fun H' o sm e => q H' o sm ?_⟩
      exact e
    | swap f g =>
      refine ⟨.ref t, rfl, t, _, 0, .str "swap", rfl, rfl, SqT.of ht, atI_nat (j := 0) rfl, rfl, _, rfl, iteD_no (by decide +kernel) ?_⟩
      refine ⟨.ref t, rfl, t, _, 0, .str "swap", rfl, rfl, SqT.of ht, atI_nat (j := 0) rfl, rfl, _, rfl, iteD_no (by decide +kernel) ?_⟩
      refine ⟨.ref t, rfl, t, _, 0, .str "swap", rfl, rfl, SqT.of ht, atI_nat (j := 0) rfl, rfl, _, rfl, iteD_no (by decide +kernel) ?_⟩
      refine ⟨.ref t, rfl, t, _, 0, .str "swap", rfl, rfl, SqT.of ht, atI_nat (j := 0) rfl, rfl, _, rfl, iteD_no (by decide +kernel) ?_⟩
      refine ⟨.ref t, rfl, t, _, 0, .str "swap", rfl, rfl, SqT.of ht, atI_nat (j := 0) rfl, two, fun o no => ⟨o, _, rfl, .inr (SqT.of upd_same), rfl, rfl, _, rfl, iteB_yes (by decide +kernel) ?_⟩⟩
      have s1 : L2.Same H (upd H o (.tup [.str "swap", .str "front"])) := Same.laid no
      have ht1 := s1 _ _ ht
      refine ⟨.int file, rfl, .ref t, rfl, 1, rfl, t, _, rfl, SqT.of ht1, (show ¬ (HT.sIx 3 0 (some 1) = 0 ∧ HT.sIx 3 3 none = 3) by decide), fun o2 no2 => ?_⟩
      have s2 := s1.trans (Same.laid (o := .tup (cutV (cv (.swap f g)) (some 1) none)) no2)
      have ht2 := s2 _ _ ht
      have ec : cutV (cv (.swap f g)) (some 1) none = [.int f, .int g] := rfl
      rw [ec] at s2 ht2
      rw [ec]
      refine ⟨o2, _, rfl, .inr (SqT.of upd_same), rfl, rfl, _, rfl, ?_⟩
      rw [if_pos rfl, inV2]
      by_cases hm : file = f ∨ file = g
      · rw [decide_eq_true hm]
        refine iteF ⟨.ref t, rfl, t, _, 0, .str "swap", rfl, rfl, SqT.of ht2, atI_nat (j := 0) rfl, rfl, _, rfl, ?_⟩
        refine iteD_no (by decide +kernel) ?_
        refine ⟨.int row, rfl, .int file, rfl, .ref t, rfl, t, _, 1, .int f, rfl, rfl, SqT.of ht2, atI_nat (j := 1) rfl, rfl, _, rfl, ite2 (fun e => ?_) (fun e => ?_)⟩
        · have e' : file = f := V.int.inj (of_decide_eq_true e)
          refine ⟨.ref t, rfl, t, _, 2, .int g, rfl, rfl, SqT.of ht2, atI_nat (j := 2) rfl, two, ?_⟩
          exact q.new s2 (by simp only [moved, if_pos e'])
        · have e' : ¬ file = f := fun z => e (decide_eq_true (congrArg V.int z))
          have e2 : file = g := hm.resolve_left e'
          refine ⟨.ref t, rfl, t, _, 1, .int f, rfl, rfl, SqT.of ht2, atI_nat (j := 1) rfl, two, ?_⟩
          exact q.new s2 (by simp only [moved, if_neg e', if_pos e2])
      · rw [decide_eq_false hm]
        refine iteT ⟨.ref p, rfl, here _ s2 ?_⟩
        have e1 : ¬ file = f := fun z => hm (.inl z)
        have e2 : ¬ file = g := fun z => hm (.inr z)
        simp only [moved, if_neg e1, if_neg e2]
    | front f g =>
      refine ⟨.ref t, rfl, t, _, 0, .str "front", rfl, rfl, SqT.of ht, atI_nat (j := 0) rfl, rfl, _, rfl, iteD_no (by decide +kernel) ?_⟩
      refine ⟨.ref t, rfl, t, _, 0, .str "front", rfl, rfl, SqT.of ht, atI_nat (j := 0) rfl, rfl, _, rfl, iteD_no (by decide +kernel) ?_⟩
      refine ⟨.ref t, rfl, t, _, 0, .str "front", rfl, rfl, SqT.of ht, atI_nat (j := 0) rfl, rfl, _, rfl, iteD_no (by decide +kernel) ?_⟩
      refine ⟨.ref t, rfl, t, _, 0, .str "front", rfl, rfl, SqT.of ht, atI_nat (j := 0) rfl, rfl, _, rfl, iteD_no (by decide +kernel) ?_⟩
      refine ⟨.ref t, rfl, t, _, 0, .str "front", rfl, rfl, SqT.of ht, atI_nat (j := 0) rfl, two, fun o no => ⟨o, _, rfl, .inr (SqT.of upd_same), rfl, rfl, _, rfl, iteB_yes (by decide +kernel) ?_⟩⟩
      have s1 : L2.Same H (upd H o (.tup [.str "swap", .str "front"])) := Same.laid no
      have ht1 := s1 _ _ ht
      refine ⟨.int file, rfl, .ref t, rfl, 1, rfl, t, _, rfl, SqT.of ht1, (show ¬ (HT.sIx 3 0 (some 1) = 0 ∧ HT.sIx 3 3 none = 3) by decide), fun o2 no2 => ?_⟩
      have s2 := s1.trans (Same.laid (o := .tup (cutV (cv (.front f g)) (some 1) none)) no2)
      have ht2 := s2 _ _ ht
      have ec : cutV (cv (.front f g)) (some 1) none = [.int f, .int g] := rfl
      rw [ec] at s2 ht2
      rw [ec]
      refine ⟨o2, _, rfl, .inr (SqT.of upd_same), rfl, rfl, _, rfl, ?_⟩
      rw [if_pos rfl, inV2]
      by_cases hm : file = f ∨ file = g
      · rw [decide_eq_true hm]
        refine iteF ⟨.ref t, rfl, t, _, 0, .str "front", rfl, rfl, SqT.of ht2, atI_nat (j := 0) rfl, rfl, _, rfl, ?_⟩
        refine iteD_yes (by decide +kernel) ?_
        refine ⟨.int row, rfl, row, 0, rfl, rfl, _, rfl, ite2 (fun e => ?_) (fun e => ?_)⟩
        · have e0 : 0 < row := of_decide_eq_true e
          exact ⟨.ref p, rfl, here _ s2 (by simp only [moved, if_pos e0])⟩
        · have e0 : ¬ 0 < row := fun z => e (decide_eq_true z)
          refine ⟨.int row, rfl, .int file, rfl, .ref t, rfl, t, _, 1, .int f, rfl, rfl, SqT.of ht2, atI_nat (j := 1) rfl, rfl, _, rfl, ite2 (fun e => ?_) (fun e => ?_)⟩
          · have e' : file = f := V.int.inj (of_decide_eq_true e)
            refine ⟨.ref t, rfl, t, _, 2, .int g, rfl, rfl, SqT.of ht2, atI_nat (j := 2) rfl, two, ?_⟩
            exact q.new s2 (by simp only [moved, if_neg e0, if_pos e'])
          · have e' : ¬ file = f := fun z => e (decide_eq_true (congrArg V.int z))
            have e2 : file = g := hm.resolve_left e'
            refine ⟨.ref t, rfl, t, _, 1, .int f, rfl, rfl, SqT.of ht2, atI_nat (j := 1) rfl, two, ?_⟩
            exact q.new s2 (by simp only [moved, if_neg e0, if_neg e', if_pos e2])
      · rw [decide_eq_false hm]
        refine iteT ⟨.ref p, rfl, here _ s2 ?_⟩
        have e1 : ¬ file = f := fun z => hm (.inl z)
        have e2 : ¬ file = g := fun z => hm (.inr z)
        simp only [moved, if_neg e1, if_neg e2]
        by_cases e0 : 0 < row
        · rw [if_pos e0]
        · rw [if_neg e0]
    | halve =>
      refine ⟨.ref t, rfl, t, _, 0, .str "halve", rfl, rfl, SqT.of ht, atI_nat (j := 0) rfl, rfl, _, rfl, iteD_no (by decide +kernel) ?_⟩
      refine ⟨.ref t, rfl, t, _, 0, .str "halve", rfl, rfl, SqT.of ht, atI_nat (j := 0) rfl, rfl, _, rfl, iteD_no (by decide +kernel) ?_⟩
      refine ⟨.ref t, rfl, t, _, 0, .str "halve", rfl, rfl, SqT.of ht, atI_nat (j := 0) rfl, rfl, _, rfl, iteD_no (by decide +kernel) ?_⟩
      refine ⟨.ref t, rfl, t, _, 0, .str "halve", rfl, rfl, SqT.of ht, atI_nat (j := 0) rfl, rfl, _, rfl, iteD_no (by decide +kernel) ?_⟩
      refine ⟨.ref t, rfl, t, _, 0, .str "halve", rfl, rfl, SqT.of ht, atI_nat (j := 0) rfl, two, fun o no => ⟨o, _, rfl, .inr (SqT.of upd_same), rfl, rfl, _, rfl, iteB_no (by decide +kernel) ?_⟩⟩
      have s1 : L2.Same H (upd H o (.tup [.str "swap", .str "front"])) := Same.laid no
      exact ⟨.ref t, rfl, .int files, rfl, .int rows, rfl, .ref p, rfl, t, p, .halve, files, rows, row, file, rfl, .inl rfl, s1 _ _ ht, s1 _ _ hp, by omega, by omega, by omega, by omega, fun H' o sm e => q H' o (s1.trans sm) e⟩
    | pair =>
      refine ⟨.ref t, rfl, t, _, 0, .str "pair", rfl, rfl, SqT.of ht, atI_nat (j := 0) rfl, rfl, _, rfl, iteD_no (by decide +kernel) ?_⟩
      refine ⟨.ref t, rfl, t, _, 0, .str "pair", rfl, rfl, SqT.of ht, atI_nat (j := 0) rfl, rfl, _, rfl, iteD_no (by decide +kernel) ?_⟩
      refine ⟨.ref t, rfl, t, _, 0, .str "pair", rfl, rfl, SqT.of ht, atI_nat (j := 0) rfl, rfl, _, rfl, iteD_no (by decide +kernel) ?_⟩
      refine ⟨.ref t, rfl, t, _, 0, .str "pair", rfl, rfl, SqT.of ht, atI_nat (j := 0) rfl, rfl, _, rfl, iteD_no (by decide +kernel) ?_⟩
      refine ⟨.ref t, rfl, t, _, 0, .str "pair", rfl, rfl, SqT.of ht, atI_nat (j := 0) rfl, two, fun o no => ⟨o, _, rfl, .inr (SqT.of upd_same), rfl, rfl, _, rfl, iteB_no (by decide +kernel) ?_⟩⟩
      have s1 : L2.Same H (upd H o (.tup [.str "swap", .str "front"])) := Same.laid no
      exact ⟨.ref t, rfl, .int files, rfl, .int rows, rfl, .ref p, rfl, t, p, .pair, files, rows, row, file, rfl, .inr (.inl rfl), s1 _ _ ht, s1 _ _ hp, by omega, by omega, by omega, by omega, fun H' o sm e => q H' o (s1.trans sm) e⟩
    | others =>
      refine ⟨.ref t, rfl, t, _, 0, .str "others", rfl, rfl, SqT.of ht, atI_nat (j := 0) rfl, rfl, _, rfl, iteD_no (by decide +kernel) ?_⟩
      refine ⟨.ref t, rfl, t, _, 0, .str "others", rfl, rfl, SqT.of ht, atI_nat (j := 0) rfl, rfl, _, rfl, iteD_no (by decide +kernel) ?_⟩
      refine ⟨.ref t, rfl, t, _, 0, .str "others", rfl, rfl, SqT.of ht, atI_nat (j := 0) rfl, rfl, _, rfl, iteD_no (by decide +kernel) ?_⟩
      refine ⟨.ref t, rfl, t, _, 0, .str "others", rfl, rfl, SqT.of ht, atI_nat (j := 0) rfl, rfl, _, rfl, iteD_no (by decide +kernel) ?_⟩
      refine ⟨.ref t, rfl, t, _, 0, .str "others", rfl, rfl, SqT.of ht, atI_nat (j := 0) rfl, two, fun o no => ⟨o, _, rfl, .inr (SqT.of upd_same), rfl, rfl, _, rfl, iteB_no (by decide +kernel) ?_⟩⟩
      have s1 : L2.Same H (upd H o (.tup [.str "swap", .str "front"])) := Same.laid no
      exact ⟨.ref t, rfl, .int files, rfl, .int rows, rfl, .ref p, rfl, t, p, .others, files, rows, row, file, rfl, .inr (.inr (.inl rfl)), s1 _ _ ht, s1 _ _ hp, by omega, by omega, by omega, by omega, fun H' o sm e => q H' o (s1.trans sm) e⟩
    | fill =>
      refine ⟨.ref t, rfl, t, _, 0, .str "fill", rfl, rfl, SqT.of ht, atI_nat (j := 0) rfl, rfl, _, rfl, iteD_no (by decide +kernel) ?_⟩
      refine ⟨.ref t, rfl, t, _, 0, .str "fill", rfl, rfl, SqT.of ht, atI_nat (j := 0) rfl, rfl, _, rfl, iteD_no (by decide +kernel) ?_⟩
      refine ⟨.ref t, rfl, t, _, 0, .str "fill", rfl, rfl, SqT.of ht, atI_nat (j := 0) rfl, rfl, _, rfl, iteD_no (by decide +kernel) ?_⟩
      refine ⟨.ref t, rfl, t, _, 0, .str "fill", rfl, rfl, SqT.of ht, atI_nat (j := 0) rfl, rfl, _, rfl, iteD_no (by decide +kernel) ?_⟩
      refine ⟨.ref t, rfl, t, _, 0, .str "fill", rfl, rfl, SqT.of ht, atI_nat (j := 0) rfl, two, fun o no => ⟨o, _, rfl, .inr (SqT.of upd_same), rfl, rfl, _, rfl, iteB_no (by decide +kernel) ?_⟩⟩
      have s1 : L2.Same H (upd H o (.tup [.str "swap", .str "front"])) := Same.laid no
      exact ⟨.ref t, rfl, .int files, rfl, .int rows, rfl, .ref p, rfl, t, p, .fill, files, rows, row, file, rfl, .inr (.inr (.inr rfl)), s1 _ _ ht, s1 _ _ hp, by omega, by omega, by omega, by omega, fun H' o sm e => q H' o (s1.trans sm) e⟩
end
end Pup

set_option Elab.async false
set_option linter.all false
set_option maxRecDepth 100000
set_option maxHeartbeats 4000000
namespace Pup
open PySem PySem.Spec PyProof.Rows L2
section
variable {P : Program} {w : World} {K : PySem.W.Frag} {mg : Str → Option Value} {base : Heap}

def vi (ns : List Int) : List V := ns.map V.int
def vn (ns : List Nat) : List V := ns.map fun (x : Nat) => V.int x
theorem okl_lt {files rows : Nat} (ok : Okl files rows) : 0 < files ∧ files < 10 ∧ 0 < rows ∧ rows < 10 ∧ files * rows ≤ 6 ∧ 0 < files * rows := by
  rcases ok with ⟨rfl, rfl | rfl | rfl⟩ | ⟨rfl, rfl | rfl⟩ <;> decide

/-! goals_of -/
def sp_goals_of : Sp := fun vs H Q _ => ∃ (t : Addr) (c : Cal) (files rows : Nat), vs = [.int files, .int rows, .ref t] ∧ H t = some (.tup (cv c)) ∧ Okl files rows ∧ Valid files c ∧
  ∀ H' p, L2.Same H H' → H p = none → H' p = some (.lst (vn (goals files rows c))) → Q (.ref p) H'
theorem ok_goals_of (T : Txt K mg) : FnOk P w K mg base CX0 3 T.f_goals_of T.d_goals_of ps_goals_of sp_goals_of := by
  refine T.F_goals_of.ok sc_goals_of (fun vs H Q E h => ?_) (fun cdv A outer s H vs Q E hr h => ?_)
  · obtain ⟨t, c, files, rows, rfl, _⟩ := h
    rfl
  · obtain ⟨t, c, files, rows, rfl, ht, ok, v, q⟩ := h
    obtain ⟨f0, f1, r0, r1, six, npos⟩ := okl_lt ok
    refine ⟨_, (pss_cons (ps_set (i := 3) sc_goals_of.nd rfl (.inl rfl) (pe_lst pa_nil))
      (pss_cons (ps_for PassesOwn.never rfl (pi_range1 (by rfl) T.n_range (pa_cons (pe_op op_mul (pv 0) (pv 1)) pa_nil)) (pg_name (i := 4) sc_goals_of.nd rfl (.inl rfl))
      (pss_one (ps_expr (pe_bm PySem.F.plainAttrs_list PySem.F.slot_list_append PySem.F.type_list_append mt_append (pv 3) (pa_cons (pe_call (ok_number_of T) (hr.mono (by decide)) (by rfl) T.g_number_of T.F_number_of.kp T.b_number_of .nil pass0 (pa_cons (pv 0) (pa_cons (pe_call (ok_moved_by T) hr (by rfl) T.g_moved_by T.F_moved_by.kp T.b_moved_by .nil pass0 (pa_cons (pv 2) (pa_cons (pv 0) (pa_cons (pv 1) (pa_cons (pe_call (ok_place_of T) (hr.mono (by decide)) (by rfl) T.g_place_of T.F_place_of.kp T.b_place_of .nil pass0 (pa_cons (pv 0) (pa_cons (pv 4) pa_nil))) pa_nil))))) pa_nil))) pa_nil)))))
      (pss_one (ps_ret (pv 3))))), ?_⟩
    refine ⟨Nat.zero_le _, fun o no => ?_⟩
    have s0 : L2.Same H (upd H o (.lst [])) := Same.laid no
    have en : (files : Int) * rows = ((files * rows : Nat) : Int) := (Int.natCast_mul files rows).symm
    refine ⟨.int files, rfl, .int rows, rfl, files, rows, rfl, rfl, .inl ⟨by omega, by omega⟩, (files : Int) * rows, rfl, by rw [en]; omega, by rw [en]; omega, ?_⟩
    have etn : ((files : Int) * rows).toNat = files * rows := by rw [en, Int.toNat_natCast]
    rw [etn]
    refine for_range (fun i σ H1 => ∃ y, σ = [some (.int files), some (.int rows), some (.ref t), some (.ref o), y] ∧ L2.Same H H1 ∧ H1 o = some (.lst (vn ((goals files rows c).take i)))) ⟨none, rfl, s0, upd_same⟩ ?_ ?_
    · rintro i σ H1 hi ⟨y, rfl, sm, ho⟩
      refine ⟨.ref o, rfl, .inl ⟨rfl, _, SqL.of ho⟩, ?_⟩
      -- the place
      refine ⟨.int files, rfl, .ref t, rfl, .int files, rfl, .int rows, rfl, .int files, rfl, .int (0 + i), rfl, files, 0 + i, rfl, by omega, by omega, fun p np => ?_⟩
      have s1 := Same.laid (o := .tup [.int ((0 + (i : Int)).fdiv files), .int ((0 + (i : Int)).fmod files)]) np
      refine ⟨t, p, c, files, rows, _, _, rfl, s1 _ _ (sm _ _ ht), upd_same, by omega, by omega, by omega, by omega, fun H2 z s2 hz => ?_⟩
      refine ⟨z, files, _, _, rfl, SqT.of hz, by omega, by omega, ?_⟩
      have so : H2 o = some (.lst (vn ((goals files rows c).take i))) := s2 _ _ (s1 _ _ ho)
      have lt2 : (vn ((goals files rows c).take i)).length < sizeLine := by
        unfold vn
        rw [List.length_map, List.length_take, sizeLine_eq]
        omega
      refine ⟨o, _, _, rfl, rfl, so, lt2, some (.int (0 + i)), rfl, fun b x e => ?_, ?_⟩
      · have nb : b ≠ o := ne_of_none e no
        rw [upd_ne nb]
        exact s2 _ _ (s1 _ _ (sm _ _ e))
      · rw [upd_same]
        congr 2
        have ea := goals_at ok v hi
        rw [List.take_succ, ea]
        unfold vn
        rw [List.map_append]
        congr 1
        show [V.int _] = [V.int _]
        have e0 : (0 + (i : Int)) = i := by omega
        have nn := goalI_nonneg ok v hi
        rw [e0]
        congr 2
        show goalI files rows c i = _
        rw [Int.toNat_of_nonneg nn]
    · rintro σ H1 ⟨y, rfl, sm, ho⟩
      refine ⟨.ref o, rfl, q H1 o sm no ?_⟩
      rw [ho, List.take_of_length_le]
      rw [(goals_gd ok v).len]
      exact Nat.le_refl _

/-! done -/
theorem dn_step {a : List Int} {g : List Nat} {i : Nat} (h1 : i < g.length) (h2 : i < a.length) : setAll a ((g.zip a).take (i + 1)) = (setAll a ((g.zip a).take i)).set g[i] a[i] := by
  have hz : (g.zip a)[i]? = some (g[i], a[i]) := by
    rw [List.getElem?_zip_eq_some]
    exact ⟨List.getElem?_eq_getElem h1, List.getElem?_eq_getElem h2⟩
  rw [List.take_succ, hz]
  unfold setAll
  rw [List.foldl_append]
  rfl
theorem vi_at {a : List Int} {i : Nat} (h : i < a.length) : (vi a)[i]? = some (.int a[i]) := by
  unfold vi
  rw [List.getElem?_map, List.getElem?_eq_getElem h]
  rfl
theorem vn_at {a : List Nat} {i : Nat} (h : i < a.length) : (vn a)[i]? = some (.int (a[i] : Nat)) := by
  unfold vn
  rw [List.getElem?_map, List.getElem?_eq_getElem h]
  rfl
theorem ixN_nat {n j : Nat} (h : j < n) : ixN n (j : Int) = some j := by
  unfold ixN
  rw [if_pos (by omega), if_pos (by omega), Int.toNat_natCast]
def sp_done : Sp := fun vs H Q _ => ∃ (t l : Addr) (a : List Int) (g : List Nat) (n : Nat), vs = [.ref t, .ref l] ∧ H t = some (.tup (vi a)) ∧ H l = some (.lst (vn g)) ∧ a.length = n ∧ Gd n g ∧ n ≤ 6 ∧
  ∀ H' p, L2.Same H H' → H p = none → H' p = some (.tup (vi (dn a g))) → Q (.ref p) H'
theorem ok_done (T : Txt K mg) : FnOk P w K mg base CX0 1 T.f_done T.d_done ps_done sp_done := by
  refine T.F_done.ok sc_done (fun vs H Q E h => ?_) (fun cdv A outer s H vs Q E hr h => ?_)
  · obtain ⟨t, l, a, g, n, rfl, _⟩ := h
    rfl
  · obtain ⟨t, l, a, g, n, rfl, ht, hl, la, gd, six, q⟩ := h
    refine ⟨_, (pss_cons (ps_set (i := 2) sc_done.nd rfl (.inl rfl) (pe_callTy call_list_of (by rfl) T.n_list (by decide +kernel) (pa_cons (pv 0) pa_nil)))
      (pss_cons (ps_for PassesOwn.never rfl (pi_enum (by rfl) T.n_enumerate (pa_cons (pv 1) pa_nil)) (pg_tup rfl (pgs_cons (pg_name (i := 3) sc_done.nd rfl (.inl rfl)) (pgs_cons (pg_name (i := 4) sc_done.nd rfl (.inl rfl)) pgs_nil)))
      (pss_one (ps_asg (pe_ix ix_tup (pv 0) (pv 3) (fun _ _ => rfl)) (pg_sub (pv 2) (pv 4) set_list))))
      (pss_one (ps_ret (pe_callTy call_tuple_of (by rfl) T.n_tuple (by decide +kernel) (pa_cons (pv 2) pa_nil)))))), ?_⟩
    refine ⟨.ref t, rfl, t, vi a, rfl, .inr (SqT.of ht), fun o no => ?_⟩
    have s0 : L2.Same H (upd H o (.lst (vi a))) := Same.laid no
    refine ⟨.ref l, rfl, l, vn g, rfl, SqL.of (s0 _ _ hl), fun i m σ H1 => ∃ y z, σ = [some (.ref t), some (.ref l), some (.ref o), y, z] ∧ L2.Same H H1 ∧ i + m = n ∧ H1 o = some (.lst (vi (setAll a ((g.zip a).take i)))),
      ⟨n, none, none, rfl, s0, by omega, upd_same⟩, ?_⟩
    rintro i m σ H1 ⟨y, z, rfl, sm, em, ho⟩
    have hl1 : SqL K H1 l (vn g) := SqL.of (sm _ _ hl)
    have lg : (vn g).length = n := by
      unfold vn
      rw [List.length_map, gd.len]
    by_cases hi : i < n
    · have i1 : i < g.length := by rw [gd.len]; exact hi
      have i2 : i < a.length := by rw [la]; exact hi
      refine .inr ⟨⟨_, _, hl1, vn_at i1⟩, fun σ' H' => ∃ y z, σ' = [some (.ref t), some (.ref l), some (.ref o), y, z] ∧ L2.Same H H' ∧ H' o = some (.lst (vi (setAll a ((g.zip a).take (i + 1))))), ?_, ?_⟩
      · rintro σ' H' ⟨y', z', e1, e2, e3⟩
        exact ⟨m - 1, by omega, y', z', e1, e2, by omega, e3⟩
      · rintro x H2 ⟨tp, x2, rfl, ntp, rfl, fx⟩
        have ex : x2 = .int (g[i] : Nat) := Option.some.inj ((fx _ hl1).symm.trans (vn_at i1))
        subst ex
        have s2 := Same.laid (o := .tup [.int (i : Nat), .int (g[i] : Nat)]) ntp
        refine ⟨tp, _, rfl, SqT.of upd_same, rfl, _, _, rfl, _, _, rfl, rfl, ?_⟩
        refine ⟨.ref t, rfl, .int (i : Nat), rfl, t, vi a, _, _, rfl, rfl, SqT.of (s2 _ _ (sm _ _ ht)), atI_nat (vi_at i2), .ref o, rfl, .int (g[i] : Nat), rfl, o, _, _, g[i], rfl, rfl, s2 _ _ ho, ?_, _, _, rfl, fun b u e => ?_, ?_⟩
        · refine ixN_nat ?_
          unfold vi
          rw [List.length_map, setAll_len, la]
          exact gd.lt _ (List.getElem_mem i1)
        · have nb : b ≠ o := ne_of_none e no
          rw [upd_ne nb]
          exact s2 _ _ (sm _ _ e)
        · rw [upd_same, dn_step i1 i2]
          unfold vi
          rw [List.map_set]
    · refine .inl ⟨⟨_, hl1, by omega⟩, ?_⟩
      refine ⟨.ref o, rfl, o, _, rfl, .inl ⟨SqL.of ho, fun p np => ?_⟩⟩
      refine q _ p (sm.trans (Same.laid np)) (sm.free np) ?_
      rw [upd_same, List.take_of_length_le]
      · rfl
      · rw [List.length_zip, gd.len, la]
        omega
end
end Pup

set_option Elab.async false
set_option linter.all false
set_option maxRecDepth 100000
set_option maxHeartbeats 4000000
namespace Pup
open PySem PySem.Spec PyProof.Rows L2
section
variable {P : Program} {w : World} {K : PySem.W.Frag} {mg : Str → Option Value} {base : Heap}

/-! is_arrangement -/
def sp_is_arrangement : Sp := fun vs H Q _ => ∃ (t : Addr) (a : List Int) (n : Nat), vs = [.int n, .ref t] ∧ H t = some (.tup (vi a)) ∧ Arr n a ∧ n ≤ 6 ∧ ∀ H', L2.Same H H' → Q (.bl true) H'
theorem ok_is_arrangement (T : Txt K mg) : FnOk P w K mg base CX0 3 T.f_is_arrangement T.d_is_arrangement ps_is_arrangement sp_is_arrangement := by
  refine T.F_is_arrangement.ok sc_is_arrangement (fun vs H Q E h => ?_) (fun cdv A outer s H vs Q E hr h => ?_)
  · obtain ⟨t, a, n, rfl, _⟩ := h
    rfl
  · obtain ⟨t, a, n, rfl, ht, ha, six, q⟩ := h
    refine ⟨_, (pss_cons (ps_if (PW.pt (pw_or (pt_not (pt_val (pe_callB call_isi (by rfl) T.n_isinstance (by decide +kernel) (pa_cons (pv 1) (pa_cons (pe_bltn (v := .ty "tuple") (by rfl) T.n_tuple (by decide +kernel) rfl) pa_nil))))) (pw_or1 (pt_cmpR op_ne (pe_callB call_len_seq (by rfl) T.n_len (by decide +kernel) (pa_cons (pv 1) pa_nil)) (pv 0) (nomark _))))) (pss_one (ps_ret pe_bl)) pss_nil)
      (pss_one (ps_ret (pe_and (pe_callB (cr_all rfl) (by rfl) T.n_all (by decide +kernel) (pa_cons (pe_lc (own := [("pupil", 2)]) (g := gName 2) (tt := tYes) (by rfl) sc_is_arrangement.nd (pi_tup (pv 1)) (blkOk_by (own := [("pupil", 2)]) (N := N_is_arrangement) (sc := defScope st_is_arrangement) (by decide +kernel)) (fun _ _ _ _ _ => pg_name (i := 2) sc_is_arrangement.nd rfl (Or.inl rfl)) (fun _ _ _ _ _ => pts_nil) (fun _ _ _ _ _ => (pe_call (ok_is_index T) hr (by rfl) T.g_is_index T.F_is_index.kp T.b_is_index .nil pass0 (pa_cons (pv 2) (pa_cons (pv 0) pa_nil))))) pa_nil)) (pe_one (pe_cmpR op_eq (pe_lenSetT rfl (by rfl) T.n_len (by rfl) T.n_set (pv 1)) (pv 0) (nomark _))))))), ?_⟩
    have lv : (vi a).length = n := by
      unfold vi
      rw [List.length_map, ha.len]
    refine ⟨.ref t, rfl, .ref t, .ty "tuple", .type "tuple", .type "tuple", true, rfl, .ty _, .base (.tup ht), kit_ty (by decide +kernel), true, rfl, iteF ?_⟩
    refine ⟨.ref t, rfl, t, _, rfl, .inr (SqT.of ht), .int n, rfl, rfl, _, rfl, ?_⟩
    rw [lv]
    refine iteNS rfl ?_
    refine ⟨.ref t, rfl, t, rfl, ⟨_, SqT.of ht⟩, fun D nD => ?_⟩
    have s0 := Same.laid (o := .lst []) nD
    refine lc_tup (xs := vi a) (fun i H1 => L2.Same H H1 ∧ H1 D = some (.lst ((List.replicate i true).map V.bl))) ⟨s0, upd_same⟩ (fun i H1 _ p => SqT.of (p.1 _ _ ht)) ?_ ?_
    · rintro i x H1 hx ⟨sm, hD⟩
      have hi : i < a.length := by
        rw [ha.len, ← lv]
        exact (List.getElem?_eq_some_iff.mp hx).1
      rw [vi_at hi] at hx
      cases hx
      obtain ⟨b0, b1⟩ := ha.mem.mp (List.getElem_mem hi)
      refine ⟨rfl, .int a[i], rfl, .int n, rfl, a[i], n, rfl, b0, b1, _, hD, ?_, fun b u e => ?_, ?_⟩
      · rw [List.length_map, List.length_replicate, sizeLine_eq]
        have := ha.len
        omega
      · have nb : b ≠ D := ne_of_none e nD
        rw [upd_ne nb]
        exact sm _ _ e
      · rw [upd_same, List.replicate_succ', List.map_append]
        rfl
    · rintro H1 ⟨sm, hD⟩
      refine ⟨D, _, rfl, SqL.of hD, true, ?_, iteT ?_⟩
      · congr 1
        rw [List.all_eq_true]
        intro b hb
        exact (List.mem_replicate.mp hb).2
      · refine ⟨.ref t, rfl, t, a, rfl, SqT.of (sm _ _ ht), ?_, ha.nodup, .int n, rfl, rfl, ?_⟩
        · rw [ha.len]
          omega
        · rw [ha.len, decide_eq_true rfl]
          exact q _ sm
end
end Pup

set_option Elab.async false
set_option linter.all false
set_option maxRecDepth 100000
set_option maxHeartbeats 1000000
namespace Pup
open PySem PySem.Spec PyProof.Rows L2

/-- all that is tracked and no dict stays -/
def SameS (H H' : Hp) : Prop := ∀ b o, (∀ kvs, o ≠ .dT kvs) → H b = some o → H' b = some o
theorem SameS.of {H H' : Hp} (s : L2.Same H H') : SameS H H' := fun b o _ e => s b o e
theorem SameS.trans {H H1 H2 : Hp} (a : SameS H H1) (b : SameS H1 H2) : SameS H H2 := fun c o n h => b c o n (a c o n h)
theorem SameS.put {H : Hp} {D : Addr} {kvs : List (List L2.Key × V)} {o : HO} (h : H D = some (.dT kvs)) : SameS H (upd H D o) := fun b u n e => by
  have ne : b ≠ D := fun z => by
    rw [z, h] at e
    exact n kvs (Option.some.inj e).symm
  rw [upd_ne ne]
  exact e
theorem lst_no {xs : List V} : ∀ kvs, HO.lst xs ≠ .dT kvs := fun _ z => HO.noConfusion z
theorem tup_no {xs : List V} : ∀ kvs, HO.tup xs ≠ .dT kvs := fun _ z => HO.noConfusion z

/-- one object taken out -/
def but (L : Addr) (H : Hp) : Hp := fun b => if b = L then none else H b
theorem but_ne {L b : Addr} {H : Hp} (h : b ≠ L) : but L H b = H b := if_neg h
theorem but_self {L : Addr} {H : Hp} : but L H L = none := if_pos rfl
theorem but_same {L : Addr} {H : Hp} : L2.Same (but L H) H := fun b o e => by
  by_cases h : b = L
  · rw [h, but_self] at e
    cases e
  · rw [but_ne h] at e
    exact e
theorem Same.but {L : Addr} {H H' : Hp} (s : L2.Same H H') : L2.Same (but L H) (but L H') := fun b o e => by
  by_cases h : b = L
  · rw [h, but_self] at e
    cases e
  · rw [but_ne h] at e ⊢
    exact s b o e
theorem but_upd {L : Addr} {H : Hp} {o : HO} : but L (upd H L o) = but L H := by
  funext b
  by_cases h : b = L
  · rw [h, but_self, but_self]
  · rw [but_ne h, but_ne h, upd_ne h]
theorem but_upd_ne {L p : Addr} {H : Hp} {o : HO} (h : p ≠ L) : but L (upd H p o) = upd (but L H) p o := by
  funext b
  by_cases hb : b = L
  · rw [hb, but_self, upd_ne (Ne.symm h), but_self]
  · rw [but_ne hb]
    by_cases hp : b = p
    · rw [hp, upd_same, upd_same]
    · rw [upd_ne hp, upd_ne hp, but_ne hb]
theorem same_but {H0 H : Hp} {L : Addr} (s : L2.Same H0 H) (h : H0 L = none) : L2.Same H0 (but L H) := fun b o e => by
  rw [but_ne (ne_of_none e h)]
  exact s b o e

/-- lists of tuples of ints, of lists of goals, of calls -/
def TupsAt (H : Hp) (l : Addr) (as : List (List Int)) : Prop := ∃ ts : List Addr, H l = some (.lst (ts.map V.ref)) ∧ Paired (fun t a => H t = some (.tup (vi a))) ts as
def GoalsAt (H : Hp) (l : Addr) (gs : List (List Nat)) : Prop := ∃ ts : List Addr, H l = some (.lst (ts.map V.ref)) ∧ Paired (fun t g => H t = some (.lst (vn g))) ts gs
def CallsAt (H : Hp) (l : Addr) (cs : List Cal) : Prop := ∃ ts : List Addr, H l = some (.lst (ts.map V.ref)) ∧ Paired (fun t c => H t = some (.tup (cv c))) ts cs
theorem pair_imp {α β : Type} {F G : α → β → Prop} {l₁ : List α} {l₂ : List β} (h : Paired F l₁ l₂) (f : ∀ a b, F a b → G a b) : Paired G l₁ l₂ := L2.Paired.mapP h f
theorem TupsAt.keep {H H' : Hp} {l : Addr} {as : List (List Int)} (s : SameS H H') (h : TupsAt H l as) : TupsAt H' l as := by
  obtain ⟨ts, h1, h2⟩ := h
  exact ⟨ts, s _ _ lst_no h1, pair_imp h2 fun _ _ e => s _ _ tup_no e⟩
theorem GoalsAt.keep {H H' : Hp} {l : Addr} {gs : List (List Nat)} (s : SameS H H') (h : GoalsAt H l gs) : GoalsAt H' l gs := by
  obtain ⟨ts, h1, h2⟩ := h
  exact ⟨ts, s _ _ lst_no h1, pair_imp h2 fun _ _ e => s _ _ lst_no e⟩
theorem CallsAt.keep {H H' : Hp} {l : Addr} {cs : List Cal} (s : SameS H H') (h : CallsAt H l cs) : CallsAt H' l cs := by
  obtain ⟨ts, h1, h2⟩ := h
  exact ⟨ts, s _ _ lst_no h1, pair_imp h2 fun _ _ e => s _ _ tup_no e⟩
theorem paired_at {α β : Type} {F : α → β → Prop} {l₁ : List α} {l₂ : List β} (h : Paired F l₁ l₂) {i : Nat} (hi : i < l₂.length) : ∃ a, l₁[i]? = some a ∧ F a l₂[i] := by
  induction h generalizing i with
  | nil => exact absurd hi (by simp)
  | @cons a b l₁ l₂ r t ih =>
    cases i with
    | zero => exact ⟨a, rfl, r⟩
    | succ i =>
      obtain ⟨x, h1, h2⟩ := ih (i := i) (by simpa using hi)
      exact ⟨x, by simpa using h1, by simpa using h2⟩
theorem refs_get {ts : List Addr} {i : Nat} {a : Addr} (h : ts[i]? = some a) : (ts.map V.ref)[i]? = some (.ref a) := by
  rw [List.getElem?_map, h]
  rfl

/-- the dict of what was found: m tells keys and depths -/
def FR (H : Hp) (kv : List L2.Key × V) (p : List Int × Nat) : Prop := kv.1 = p.1.map Sum.inl ∧ ∃ (l : Addr) (xs : List V), kv.2 = .ref l ∧ H l = some (.lst xs) ∧ xs.length = p.2
def FoundAt (H : Hp) (D : Addr) (m : List (List Int × Nat)) : Prop := ∃ kvs, H D = some (.dT kvs) ∧ Paired (FR H) kvs m
theorem inl_inj : ∀ {a b : List Int}, a.map (Sum.inl : Int → L2.Key) = b.map Sum.inl → a = b
  | [], [], _ => rfl
  | [], _ :: _, e => by cases e
  | _ :: _, [], e => by cases e
  | x :: a, y :: b, e => by
    rw [List.map_cons, List.map_cons] at e
    injection e with e1 e2
    injection e1 with e1
    rw [e1, inl_inj e2]
theorem FR.keep {H H' : Hp} (s : SameS H H') {kv : List L2.Key × V} {p : List Int × Nat} (h : FR H kv p) : FR H' kv p := by
  obtain ⟨h1, l, xs, h2, h3, h4⟩ := h
  exact ⟨h1, l, xs, h2, s _ _ lst_no h3, h4⟩
theorem FoundAt.keep {H H' : Hp} {D : Addr} {m : List (List Int × Nat)} (s : L2.Same H H') (h : FoundAt H D m) : FoundAt H' D m := by
  obtain ⟨kvs, h1, h2⟩ := h
  exact ⟨kvs, s _ _ h1, pair_imp h2 fun _ _ e => e.keep (SameS.of s)⟩
theorem val_in {H : Hp} {kvs : List (List L2.Key × V)} {m : List (List Int × Nat)} (h : Paired (FR H) kvs m) (nd : (m.map (·.1)).Nodup) {a : List Int} {d : Nat} (ha : (a, d) ∈ m) :
    ∃ (l : Addr) (xs : List V), valV kvs (a.map Sum.inl) = some (.ref l) ∧ H l = some (.lst xs) ∧ xs.length = d := by
  induction h with
  | nil => cases ha
  | @cons kv p kvs m r t ih =>
    rw [List.map_cons, List.nodup_cons] at nd
    rcases List.mem_cons.mp ha with e | ha
    · obtain ⟨h1, l, xs, h2, h3, h4⟩ := r
      rw [← e] at h1 h4
      exact ⟨l, xs, by rw [valV_pos h1, h2], h3, h4⟩
    · have ne : ¬ kv.1 = a.map Sum.inl := fun e => by
        have ep : p.1 = a := inl_inj (r.1.symm.trans e)
        refine nd.1 ?_
        rw [ep]
        exact List.mem_map.mpr ⟨(a, d), ha, rfl⟩
      rw [valV_neg ne]
      exact ih nd.2 ha
theorem val_out {H : Hp} {kvs : List (List L2.Key × V)} {m : List (List Int × Nat)} (h : Paired (FR H) kvs m) {a : List Int} (ha : a ∉ m.map (·.1)) : valV kvs (a.map Sum.inl) = none := by
  induction h with
  | nil => rfl
  | @cons kv p kvs m r t ih =>
    rw [List.map_cons, List.mem_cons, not_or] at ha
    have ne : ¬ kv.1 = a.map Sum.inl := fun e => ha.1 (inl_inj (r.1.symm.trans e)).symm
    rw [valV_neg ne]
    exact ih ha.2
theorem vi_key (a : List Int) : (a.map (Sum.inl : Int → L2.Key)).map kV = vi a := by
  rw [List.map_map]
  rfl

/-- between two turns of the inner loops: L is the list of what comes later, R whatever else must stand -/
structure Mid (R : Hp → Prop) (H0 H : Hp) (n : Nat) (gs : List (List Nat)) (D L : Addr) (b0 t : Nat) (now : Option (List Int × List (List Int → List Int))) (todo later : List (List Int)) (m : List (List Int × Nat)) : Prop where
  s0 : L2.Same H0 (but L H)
  r : R (but L H)
  f : FoundAt (but L H) D m
  l : ∃ us : List Addr, H L = some (.lst (us.map V.ref)) ∧ Paired (fun t a => but L H t = some (.tup (vi a))) us later
  w : Within (gs.map fun g a => dn a g) (iota n) m t now todo later
  c : b0 + later.length ≤ m.length
theorem reach_arr {n : Nat} {gs : List (List Nat)} (hg : ∀ g ∈ gs, Gd n g) {d : Nat} {a : List Int} (r : ReachN (gs.map fun g a => dn a g) (iota n) d a) : Arr n a := by
  induction r with
  | zero => exact List.Perm.refl _
  | step r hf ih =>
    obtain ⟨g, hg', rfl⟩ := List.mem_map.mp hf
    exact dn_arr ih (hg g hg')
theorem keys_le {n : Nat} {gs : List (List Nat)} (hg : ∀ g ∈ gs, Gd n g) {m : List (List Int × Nat)} (nd : (m.map (·.1)).Nodup) (rn : ∀ a d, (a, d) ∈ m → ReachN (gs.map fun g a => dn a g) (iota n) d a) : m.length ≤ fact n := by
  rw [← List.length_map (f := (·.1)) (as := m)]
  refine arr_le nd fun a ha => ?_
  obtain ⟨⟨b, d⟩, h1, rfl⟩ := List.mem_map.mp ha
  exact reach_arr hg (rn b d h1)
theorem fact_le {n : Nat} (h : n ≤ 6) : fact n ≤ 720 := by
  have : n = 0 ∨ n = 1 ∨ n = 2 ∨ n = 3 ∨ n = 4 ∨ n = 5 ∨ n = 6 := by omega
  rcases this with rfl | rfl | rfl | rfl | rfl | rfl | rfl <;> decide
section
variable {R : Hp → Prop} {H0 H H' : Hp} {n : Nat} {gs : List (List Nat)} {D L : Addr} {b0 t : Nat} {now : Option (List Int × List (List Int → List Int))} {todo later : List (List Int)} {m : List (List Int × Nat)}
theorem Mid.keep (hR : ∀ H H', SameS H H' → R H → R H') (s : L2.Same H H') (x : Mid R H0 H n gs D L b0 t now todo later m) : Mid R H0 H' n gs D L b0 t now todo later m := by
  have sb := Same.but (L := L) s
  obtain ⟨us, u1, u2⟩ := x.l
  exact ⟨x.s0.trans sb, hR _ _ (SameS.of sb) x.r, x.f.keep sb, ⟨us, s _ _ u1, pair_imp u2 fun _ _ e => sb _ _ e⟩, x.w, x.c⟩
theorem Mid.met {a : List Int} {g : List Nat} {gone : List (List Int → List Int)} (x : Mid R H0 H n gs D L b0 t (some (a, gone)) todo later m) (h : dn a g ∈ m.map (·.1)) :
    Mid R H0 H n gs D L b0 t (some (a, gone ++ [fun a => dn a g])) todo later m := ⟨x.s0, x.r, x.f, x.l, x.w.met (f := fun a => dn a g) h, x.c⟩
/-- a new goal: its tuple stands at b, its list at p -/
theorem Mid.new {a : List Int} {g : List Nat} {gone : List (List Int → List Int)} {b p : Addr} {xs : List V} {kvs : List (List L2.Key × V)} {us : List Addr} (hR : ∀ H H', SameS H H' → R H → R H') (x : Mid R H0 H n gs D L b0 t (some (a, gone)) todo later m)
    (hg : g ∈ gs) (h : dn a g ∉ m.map (·.1)) (hb : H b = some (.tup (vi (dn a g)))) (hp : H p = some (.lst xs)) (np : p ≠ L) (lx : xs.length = t + 1) (hD : H D = some (.dT kvs)) (h0 : H0 D = none) (hL : H L = some (.lst (us.map V.ref))) :
    Mid R H0 (upd (upd H D (.dT (putK kvs ((dn a g).map Sum.inl) (.ref p)))) L (.lst (us.map V.ref ++ [.ref b]))) n gs D L b0 t (some (a, gone ++ [fun a => dn a g])) todo (later ++ [dn a g]) (m ++ [(dn a g, t + 1)]) := by
  have nD : D ≠ L := ne_of hD hL (fun z => HO.noConfusion z)
  have nb : b ≠ L := ne_of hb hL (fun z => HO.noConfusion z)
  have hDb : but L H D = some (.dT kvs) := by
    rw [but_ne nD]
    exact hD
  obtain ⟨kvs', f1, f2⟩ := x.f
  obtain rfl : kvs' = kvs := by
    rw [hDb] at f1
    cases f1
    rfl
  have out := val_out f2 h
  rw [putK_new _ out]
  have sS : SameS (but L H) (upd (but L H) D (.dT (kvs' ++ [((dn a g).map Sum.inl, .ref p)]))) := SameS.put hDb
  have eb : but L (upd (upd H D (.dT (kvs' ++ [((dn a g).map Sum.inl, .ref p)]))) L (.lst (us.map V.ref ++ [.ref b]))) = upd (but L H) D (.dT (kvs' ++ [((dn a g).map Sum.inl, .ref p)])) := by
    rw [but_upd, but_upd_ne nD]
  obtain ⟨us', u1, u2⟩ := x.l
  obtain rfl : us' = us := by
    rw [hL] at u1
    have e : us.map V.ref = us'.map V.ref := by
      injection u1 with u1
      injection u1
    have inj : ∀ {l m : List Addr}, l.map V.ref = m.map V.ref → l = m := by
      intro l
      induction l with
      | nil =>
        intro m e
        cases m with
        | nil => rfl
        | cons _ _ => cases e
      | cons x l ih =>
        intro m e
        cases m with
        | nil => cases e
        | cons y m =>
          rw [List.map_cons, List.map_cons] at e
          injection e with e1 e2
          injection e1 with e1
          rw [e1, ih e2]
    exact (inj e).symm
  refine ⟨?_, ?_, ?_, ⟨us' ++ [b], ?_, ?_⟩, x.w.new (f := fun a => dn a g) (List.mem_map.mpr ⟨g, hg, rfl⟩) h, ?_⟩
  · rw [eb]
    intro c o e
    rw [upd_ne (ne_of_none e h0)]
    exact x.s0 _ _ e
  · rw [eb]
    exact hR _ _ sS x.r
  · rw [eb]
    refine ⟨_, upd_same, Paired.snoc (pair_imp f2 fun _ _ e => e.keep sS) ⟨rfl, p, xs, rfl, ?_, lx⟩⟩
    exact sS _ _ lst_no (by rw [but_ne np]; exact hp)
  · rw [upd_same, List.map_append]
    rfl
  · rw [eb]
    refine Paired.snoc (pair_imp u2 fun _ _ e => sS _ _ tup_no e) (sS _ _ tup_no ?_)
    rw [but_ne nb]
    exact hb
  · rw [List.length_append, List.length_append, List.length_singleton, List.length_singleton]
    have := x.c
    omega
end
end Pup

set_option Elab.async false
set_option linter.all false
set_option maxRecDepth 100000
set_option maxHeartbeats 4000000
namespace Pup
open PySem PySem.Spec PyProof.Rows L2
section
variable {P : Program} {w : World} {K : PySem.W.Frag} {mg : Str → Option Value} {base : Heap}

def mvs (files rows : Nat) (cs : List Cal) : List (List Nat) := cs.map (goals files rows)
def fns (files rows : Nat) (cs : List Cal) : List (List Int → List Int) := (mvs files rows cs).map fun g a => dn a g
theorem mvs_gd {files rows : Nat} (ok : Okl files rows) {cs : List Cal} (v : ∀ c ∈ cs, Valid files c) : ∀ g ∈ mvs files rows cs, Gd (files * rows) g := by
  intro g hg
  obtain ⟨c, hc, rfl⟩ := List.mem_map.mp hg
  exact goals_gd ok (v c hc)
theorem rgV_iota (n : Nat) : rgV 0 (n : Int) = vi (iota n) := by
  unfold rgV vi iota
  rw [List.map_map]
  have e : ((n : Int) - 0).toNat = n := by omega
  rw [e]
  refine List.map_congr_left fun i _ => ?_
  show V.int (0 + (i : Int)) = V.int (i : Int)
  rw [Int.zero_add]

/-! reached -/
def sp_reached : Sp := fun vs H Q _ => ∃ (cl : Addr) (cs : List Cal) (files rows : Nat), vs = [.int files, .int rows, .ref cl] ∧ CallsAt H cl cs ∧ Okl files rows ∧ (∀ c ∈ cs, Valid files c) ∧ cs.length ≤ 1000 ∧
  ∀ H' D m, L2.Same H H' → H D = none → FoundAt H' D m → Closed (fns files rows cs) (iota (files * rows)) m → Q (.ref D) H'
theorem ok_reached (T : Txt K mg) : FnOk P w K mg base CX0 4 T.f_reached T.d_reached ps_reached sp_reached := by
  refine T.F_reached.ok sc_reached (fun vs H Q E h => ?_) (fun cdv A outer s H vs Q E hr h => ?_)
  · obtain ⟨cl, cs, files, rows, rfl, _⟩ := h
    rfl
  · obtain ⟨cl, cs, files, rows, rfl, hcl, ok, va, few, q⟩ := h
    have hu := hu_of hr
    obtain ⟨n, hn⟩ : ∃ n, n = files * rows := ⟨_, rfl⟩
    obtain ⟨f0, f1, r0, r1, six, npos⟩ := okl_lt ok
    rw [← hn] at six npos q
    have gd := mvs_gd ok va
    rw [← hn] at gd
    have en : (files : Int) * rows = (n : Int) := by rw [hn, Int.natCast_mul]
    refine ⟨_, (pss_cons (ps_par (i := 3) (j := 4) rfl sc_reached.nd rfl rfl (by decide) rfl rfl (pa_cons (pe_lc (own := [("call", 12)]) (g := gName 12) (tt := tYes) (by rfl) sc_reached.nd (pi_list (pv 2)) (blkOk_by (own := [("call", 12)]) (N := N_reached) (sc := defScope st_reached) (by decide +kernel)) (fun _ _ _ _ _ => pg_name (i := 12) sc_reached.nd rfl (Or.inl rfl)) (fun _ _ _ _ _ => pts_nil) (fun _ _ _ _ _ => (pe_call (ok_goals_of T) hr (by rfl) T.g_goals_of T.F_goals_of.kp T.b_goals_of .nil pass0 (pa_cons (pv 0) (pa_cons (pv 1) (pa_cons (pv 12) pa_nil)))))) (pa_cons (pe_tupRg rfl (by rfl) T.n_tuple (prg_1 (by rfl) T.n_range (pe_op op_mul (pv 0) (pv 1)))) pa_nil)) (by rfl))
      (pss_cons (ps_par (i := 5) (j := 6) rfl sc_reached.nd rfl rfl (by decide) rfl rfl (pa_cons (pe_disp1 hr.units0 (pv 4) (pe_lst pa_nil)) (pa_cons (pe_lst (pa_cons (pv 4) pa_nil)) pa_nil)) (by rfl))
      (pss_cons (ps_while PassesOwn.never (pt_truth (pv 6) (by intro _; rfl)) (pss_cons (ps_set (i := 7) sc_reached.nd rfl (.inl rfl) (pe_lst pa_nil))
      (pss_cons (ps_for PassesOwn.never rfl (pi_list (pe_callTy call_list_of (by rfl) T.n_list (by decide +kernel) (pa_cons (pv 6) pa_nil))) (pg_name (i := 8) sc_reached.nd rfl (.inl rfl))
      (pss_one (ps_for PassesOwn.never rfl (pi_enum (by rfl) T.n_enumerate (pa_cons (pv 3) pa_nil)) (pg_tup rfl (pgs_cons (pg_name (i := 9) sc_reached.nd rfl (.inl rfl)) (pgs_cons (pg_name (i := 10) sc_reached.nd rfl (.inl rfl)) pgs_nil)))
      (pss_cons (ps_set (i := 11) sc_reached.nd rfl (.inl rfl) (pe_call (ok_done T) (hr.mono (by decide)) (by rfl) T.g_done T.F_done.kp T.b_done .nil pass0 (pa_cons (pv 8) (pa_cons (pv 10) pa_nil))))
      (pss_one (ps_if (pt_cmp (pc_dnotin hu (pv 11) (pv 5))) (pss_cons (ps_dput hu (pv 5) (pv 11) (pe_op op_cat (pe_dget hu (pv 5) (pv 8) (fun _ _ => rfl)) (pe_lst (pa_cons (pv 9) pa_nil))) rfl)
      (pss_one (ps_expr (pe_bm PySem.F.plainAttrs_list PySem.F.slot_list_append PySem.F.type_list_append mt_append (pv 7) (pa_cons (pv 11) pa_nil))))) pss_nil))))))
      (pss_one (ps_set (i := 6) sc_reached.nd rfl (.inl rfl) (pv 7))))))
      (pss_one (ps_ret (pv 5)))))), ?_⟩
    obtain ⟨ts, hts, pts⟩ := hcl
    have lts : ts.length = cs.length := Paired.length pts
    -- moves
    refine ⟨.ref cl, rfl, cl, rfl, ⟨_, SqL.of hts⟩, fun mv nmv => ?_⟩
    have s0 := Same.laid (o := .lst []) nmv
    refine lc_list (xs := ts.map V.ref) (fun i H1 => L2.Same H H1 ∧ ∃ ls : List Addr, H1 mv = some (.lst (ls.map V.ref)) ∧ Paired (fun t g => H1 t = some (.lst (vn g)) ∧ t ≠ mv) ls ((mvs files rows cs).take i)) ⟨s0, [], upd_same, .nil⟩ (fun i H1 _ p => SqL.of (p.1 _ _ hts)) ?_ ?_
    · rintro i x H1 hx ⟨sm, ls, hm, pl⟩
      have hi : i < cs.length := by
        have := (List.getElem?_eq_some_iff.mp hx).1
        rw [List.length_map] at this
        omega
      obtain ⟨a, ha, hca⟩ := paired_at pts hi
      have ex : x = .ref a := by
        have := refs_get ha
        rw [hx] at this
        exact Option.some.inj this
      subst ex
      refine ⟨rfl, .int files, rfl, .int rows, rfl, .ref a, rfl, a, cs[i], files, rows, rfl, sm _ _ hca, ok, va _ (List.getElem_mem hi), fun H2 p s2 np hp => ?_⟩
      have hm2 := s2 _ _ hm
      have npm : p ≠ mv := fun z => by
        rw [z, hm] at np
        cases np
      refine ⟨_, hm2, ?_, fun b u e => ?_, ls ++ [p], ?_, ?_⟩
      · have := Paired.length pl
        rw [List.length_take] at this
        rw [List.length_map, sizeLine_eq]
        omega
      · rw [upd_ne (ne_of_none e nmv)]
        exact s2 _ _ (sm _ _ e)
      · rw [upd_same, List.map_append]
        rfl
      · have et : (mvs files rows cs)[i]? = some (goals files rows cs[i]) := by
          unfold mvs
          rw [List.getElem?_map, List.getElem?_eq_getElem hi]
          rfl
        rw [List.take_succ, et]
        refine Paired.snoc (pair_imp pl fun t g e => ⟨?_, e.2⟩) ⟨?_, npm⟩
        · rw [upd_ne e.2]
          exact s2 _ _ e.1
        · rw [upd_ne npm]
          exact hp
    · rintro H1 ⟨s1, ls, hm, pl⟩
      have elen : (mvs files rows cs).take (ts.map V.ref).length = mvs files rows cs := by
        refine List.take_of_length_le ?_
        unfold mvs
        rw [List.length_map, List.length_map]
        omega
      rw [elen] at pl
      have gA : GoalsAt H1 mv (mvs files rows cs) := ⟨ls, hm, pair_imp pl fun _ _ e => e.1⟩
      -- start
      refine ⟨.int files, rfl, .int rows, rfl, files, rows, rfl, rfl, .inl ⟨by omega, by omega⟩, (files : Int) * rows, rfl, RgOk.of_le (by omega) (by rw [en]; omega) (by omega) (by rw [en]; omega), fun st nst => ?_⟩
      rw [en, rgV_iota]
      have s2 := Same.laid (o := .tup (vi (iota n))) nst
      refine ⟨.ref mv, .ref st, rfl, ?_⟩
      -- found, level
      refine fun D nD => ⟨.ref st, rfl, Nat.zero_le _, fun l0 nl0 => ?_⟩
      have s3 := Same.laid (o := .dT []) nD
      have s4 := Same.laid (o := .lst []) nl0
      have hst := s4 _ _ (s3 _ _ (upd_same (H := H1) (a := st) (o := .tup (vi (iota n)))))
      have nDl : D ≠ l0 := fun z => by
        rw [z, upd_same] at nl0
        cases nl0
      refine ⟨s4 _ _ upd_same, st, (iota n).map Sum.inl, rfl, by rw [vi_key]; exact hst, .ref st, rfl, by show 1 ≤ sizeLine; decide, fun lv nlv => ?_⟩
      have nD0 : H D = none := s1.free (s2.free nD)
      refine ⟨.ref D, .ref lv, rfl, ?_⟩
      -- the heap at the loop
      generalize hHA : upd (upd (upd (upd H1 st (.tup (vi (iota n)))) D (.dT [])) l0 (.lst [])) D (.dT [((iota n).map Sum.inl, .ref l0)]) = HA at nlv ⊢
      have sA : L2.Same H HA := by
        intro b u e
        rw [← hHA, upd_ne (ne_of_none e nD0)]
        exact s4 _ _ (s3 _ _ (s2 _ _ (s1 _ _ e)))
      have s5 := Same.laid (o := .lst [V.ref st]) nlv
      have sS : SameS H1 HA := by
        rw [← hHA]
        exact ((SameS.of s2).trans (SameS.of s3)).trans ((SameS.of s4).trans (SameS.put (s4 _ _ upd_same)))
      have fA : FoundAt HA D [(iota n, 0)] := by
        refine ⟨[((iota n).map Sum.inl, .ref l0)], by rw [← hHA]; exact upd_same, .cons ⟨rfl, l0, [], rfl, ?_, rfl⟩ .nil⟩
        rw [← hHA, upd_ne (Ne.symm nDl), upd_same]
      have tA : HA st = some (.tup (vi (iota n))) := by
        rw [← hHA, upd_ne (ne_of hst (s4 _ _ upd_same) (fun z => HO.noConfusion z))]
        exact hst
      refine ⟨fun μ σ Hc => ∃ (lv : Addr) (y7 y8 y9 y10 y11 y12 : Option V) (m : List (List Int × Nat)) (t : Nat) (level : List (List Int)), σ = [some (.int files), some (.int rows), some (.ref cl), some (.ref mv), some (.ref st), some (.ref D), some (.ref lv), y7, y8, y9, y10, y11, y12] ∧ L2.Same H Hc ∧
          GoalsAt Hc mv (mvs files rows cs) ∧ FoundAt Hc D m ∧ TupsAt Hc lv level ∧ Sweep (fns files rows cs) (iota n) m t level ∧ (level ≠ [] → t + 1 ≤ m.length) ∧ μ = 2 * (fact n - m.length) + (if level = [] then 0 else 1),
        ⟨_, lv, none, none, none, none, none, none, [(iota n, 0)], 0, [iota n], rfl, sA.trans s5, gA.keep (sS.trans (SameS.of s5)), fA.keep s5, ⟨[st], upd_same, .cons (s5 _ _ tA) .nil⟩, Sweep.first, fun _ => Nat.le_refl _, rfl⟩, ?_⟩
      rintro μ σ Hc ⟨lv, y7, y8, y9, y10, y11, y12, m, t, level, rfl, sc0, gc, fc, tc, sw, cnt, hμ⟩
      obtain ⟨us, hus, pus⟩ := id tc
      have lus : us.length = level.length := Paired.length pus
      refine ⟨.ref lv, rfl, !(us.map V.ref).isEmpty, .inl ⟨_, SqL.of hus, rfl⟩, ?_⟩
      cases hlev : level with
      | nil =>
        have e0 : us = [] := List.length_eq_zero_iff.mp (by rw [lus, hlev]; rfl)
        rw [e0]
        refine iteF ⟨.ref D, rfl, ?_⟩
        rw [hlev] at sw
        exact q Hc D m sc0 nD0 fc sw.done
      | cons a0 lrest =>
        have ene : (!(us.map V.ref).isEmpty) = true := by
          cases us with
          | nil =>
            rw [hlev] at lus
            cases lus
          | cons _ _ => rfl
        rw [ene]
        have hne : level ≠ [] := by
          rw [hlev]
          exact List.cons_ne_nil _ _
        refine iteT ⟨fun σ' H' => ∃ (lv : Addr) (y7 y8 y9 y10 y11 y12 : Option V) (m' : List (List Int × Nat)) (t : Nat) (level : List (List Int)), σ' = [some (.int files), some (.int rows), some (.ref cl), some (.ref mv), some (.ref st), some (.ref D), some (.ref lv), y7, y8, y9, y10, y11, y12] ∧ L2.Same H H' ∧
          GoalsAt H' mv (mvs files rows cs) ∧ FoundAt H' D m' ∧ TupsAt H' lv level ∧ Sweep (fns files rows cs) (iota n) m' t level ∧ (level ≠ [] → t + 1 ≤ m'.length) ∧ m.length + level.length ≤ m'.length ∧ (level = [] ∨ m.length < m'.length), ?_, ?_⟩
        · rintro σ' H' ⟨lv, y7, y8, y9, y10, y11, y12, m', t', level', e1, e2, e3, e4, e5, e6, e7, e8, e9⟩
          refine ⟨_, ?_, lv, y7, y8, y9, y10, y11, y12, m', t', level', e1, e2, e3, e4, e5, e6, e7, rfl⟩
          have k1 := keys_le gd e6.nd e6.rn
          rw [hμ, if_neg hne]
          by_cases z : level' = []
          · rw [if_pos z]
            omega
          · rw [if_neg z]
            have := e9.resolve_left z
            omega
        · -- later = []
          refine ⟨Nat.zero_le _, fun L nL => ?_⟩
          have s6 := Same.laid (o := .lst []) nL
          refine ⟨.ref lv, rfl, lv, _, rfl, .inl (SqL.of (s6 _ _ hus)), fun lc nlc => ?_⟩
          have s7 := Same.laid (o := .lst (us.map V.ref)) nlc
          have nlL : lc ≠ L := fun z => by
            rw [z, upd_same] at nlc
            cases nlc
          obtain ⟨Rr, hRr⟩ : ∃ Rr : Hp → Prop, Rr = fun H => GoalsAt H mv (mvs files rows cs) ∧ H lc = some (.lst (us.map V.ref)) ∧ Paired (fun t a => H t = some (.tup (vi a))) us level := ⟨_, rfl⟩
          have hR : ∀ H H', SameS H H' → Rr H → Rr H' := by
            rw [hRr]
            exact fun _ _ s x => ⟨x.1.keep s, s _ _ lst_no x.2.1, pair_imp x.2.2 fun _ _ e => s _ _ tup_no e⟩
          have hL0 : H L = none := sc0.free nL
          have sb : L2.Same Hc (but L (upd (upd Hc L (.lst [])) lc (.lst (us.map V.ref)))) := same_but (s6.trans s7) nL
          have mid0 : Mid Rr H (upd (upd Hc L (.lst [])) lc (.lst (us.map V.ref))) n (mvs files rows cs) D L m.length t none level [] m := by
            refine ⟨sc0.trans sb, ?_, fc.keep sb, ⟨[], s7 _ _ upd_same, .nil⟩, sw.into, Nat.le_refl _⟩
            rw [hRr]
            refine ⟨gc.keep (SameS.of sb), ?_, pair_imp pus fun _ _ e => sb _ _ e⟩
            rw [but_ne nlL, upd_same]
          have tm := cnt hne
          refine ⟨lc, rfl, ⟨_, SqL.of upd_same⟩, for_list (xs := us.map V.ref) (fun i σ H2 => ∃ (y8 y9 y10 y11 y12 : Option V) (m' : List (List Int × Nat)) (later : List (List Int)), σ = [some (.int files), some (.int rows), some (.ref cl), some (.ref mv), some (.ref st), some (.ref D), some (.ref lv), some (.ref L), y8, y9, y10, y11, y12] ∧
            Mid Rr H H2 n (mvs files rows cs) D L m.length t none (level.drop i) later m') ⟨y8, y9, y10, y11, y12, m, [], rfl, mid0⟩ ?_ ?_ ?_⟩
          · rintro i σ H2 _ ⟨y8, y9, y10, y11, y12, m', later, rfl, mid⟩
            have := mid.r
            rw [hRr] at this
            exact SqL.of (but_same _ _ this.2.1)
          · rintro i x σ H2 hx ⟨y8, y9, y10, y11, y12, m', later, rfl, mid⟩
            have hi : i < level.length := by
              have := (List.getElem?_eq_some_iff.mp hx).1
              rw [List.length_map] at this
              omega
            have hr0 := mid.r
            rw [hRr] at hr0
            obtain ⟨ti, hti, hta⟩ := paired_at hr0.2.2 hi
            have ex : x = .ref ti := by
              have := refs_get hti
              rw [hx] at this
              exact Option.some.inj this
            subst ex
            have edrop : level.drop i = level[i] :: level.drop (i + 1) := List.drop_eq_getElem_cons hi
            have hw : Within (fns files rows cs) (iota n) m' t none (level[i] :: level.drop (i + 1)) later := by
              rw [← edrop]
              exact mid.w
            have midp : Mid Rr H H2 n (mvs files rows cs) D L m.length t (some (level[i], [])) (level.drop (i + 1)) later m' := ⟨mid.s0, mid.r, mid.f, mid.l, hw.pick, mid.c⟩
            obtain ⟨ls0, hls0, pls0⟩ := hr0.1
            refine ⟨.ref mv, rfl, mv, _, rfl, SqL.of (but_same _ _ hls0), fun j k σ H3 => ∃ (y9 y10 y11 y12 : Option V) (m' : List (List Int × Nat)) (later : List (List Int)), σ = [some (.int files), some (.int rows), some (.ref cl), some (.ref mv), some (.ref st), some (.ref D), some (.ref lv), some (.ref L), some (.ref ti), y9, y10, y11, y12] ∧
              H3 ti = some (.tup (vi level[i])) ∧ j + k = (mvs files rows cs).length ∧ Mid Rr H H3 n (mvs files rows cs) D L m.length t (some (level[i], ((mvs files rows cs).take j).map fun g a => dn a g)) (level.drop (i + 1)) later m',
              ⟨_, y9, y10, y11, y12, m', later, rfl, but_same _ _ hta, Nat.zero_add _, midp⟩, ?_⟩
            rintro j k σ H3 ⟨y9, y10, y11, y12, m', later, rfl, ha3, ejk, mid3⟩
            have hr3 := mid3.r
            rw [hRr] at hr3
            obtain ⟨ls, hls, pls⟩ := hr3.1
            have lls : ls.length = (mvs files rows cs).length := Paired.length pls
            have hmv : SqL K H3 mv (ls.map V.ref) := SqL.of (but_same _ _ hls)
            by_cases hj : j < (mvs files rows cs).length
            · obtain ⟨gj, hgj, hg⟩ := paired_at pls hj
              refine .inr ⟨⟨_, _, hmv, refs_get hgj⟩, fun σ' H' => ∃ (y9 y10 y11 y12 : Option V) (m' : List (List Int × Nat)) (later : List (List Int)), σ' = [some (.int files), some (.int rows), some (.ref cl), some (.ref mv), some (.ref st), some (.ref D), some (.ref lv), some (.ref L), some (.ref ti), y9, y10, y11, y12] ∧
                H' ti = some (.tup (vi level[i])) ∧ Mid Rr H H' n (mvs files rows cs) D L m.length t (some (level[i], ((mvs files rows cs).take (j + 1)).map fun g a => dn a g)) (level.drop (i + 1)) later m', ?_, ?_⟩
              · rintro σ' H' ⟨z9, z10, z11, z12, m2, later2, e1, e2, e3⟩
                exact ⟨k - 1, by omega, z9, z10, z11, z12, m2, later2, e1, e2, by omega, e3⟩
              · rintro xx H4 ⟨tp, x2, rfl, ntp, rfl, fx⟩
                have e2 : x2 = .ref gj := Option.some.inj ((fx _ hmv).symm.trans (refs_get hgj))
                subst e2
                have s8 := Same.laid (o := .tup [.int (j : Nat), .ref gj]) ntp
                have etake : ((mvs files rows cs).take (j + 1)).map (fun g a => dn a g) = ((mvs files rows cs).take j).map (fun g a => dn a g) ++ [fun a => dn a (mvs files rows cs)[j]] := by
                  rw [List.take_succ, List.getElem?_eq_getElem hj, List.map_append]
                  rfl
                have hgm : (mvs files rows cs)[j] ∈ mvs files rows cs := List.getElem_mem hj
                have hga := gd _ hgm
                have arr : Arr n level[i] := reach_arr gd (sw.rn _ _ (sw.lv _ (List.getElem_mem hi)))
                refine ⟨tp, _, rfl, SqT.of upd_same, rfl, _, _, rfl, _, _, rfl, rfl, ?_⟩
                refine ⟨.ref ti, rfl, .ref gj, rfl, ti, gj, level[i], (mvs files rows cs)[j], n, rfl, s8 _ _ ha3, s8 _ _ (but_same _ _ hg), arr.len, hga, six, fun H5 pg s9 npg hpg => ?_⟩
                have mid5 := (mid3.keep hR s8).keep hR s9
                obtain ⟨kvs, k1, k2⟩ := mid5.f
                have hD5 : H5 D = some (.dT kvs) := but_same _ _ k1
                have hpk : H5 pg = some (.tup (((dn level[i] (mvs files rows cs)[j]).map Sum.inl).map kV)) := by
                  rw [vi_key]
                  exact hpg
                have ha5 := s9 _ _ (s8 _ _ ha3)
                refine ⟨.ref pg, rfl, .ref D, rfl, D, _, rfl, DGet.t hD5 hpk, _, rfl, ?_⟩
                by_cases hm : dn level[i] (mvs files rows cs)[j] ∈ m'.map (·.1)
                · obtain ⟨⟨b, d⟩, hb1, hb2⟩ := List.mem_map.mp hm
                  have hb3 : b = dn level[i] (mvs files rows cs)[j] := hb2
                  rw [hb3] at hb1
                  obtain ⟨l, xs, v1, _, _⟩ := val_in k2 mid5.w.nd hb1
                  rw [v1]
                  refine iteF ⟨_, _, _, _, m', later, rfl, ha5, ?_⟩
                  rw [etake]
                  exact mid5.met hm
                · rw [val_out k2 hm]
                  -- found[arrangement] + [index]
                  obtain ⟨q1, _⟩ := mid5.w.nw _ _ rfl
                  obtain ⟨l, xs, v1, v2, v3⟩ := val_in k2 mid5.w.nd q1
                  have hak : H5 ti = some (.tup ((level[i].map Sum.inl).map kV)) := by
                    rw [vi_key]
                    exact ha5
                  refine iteT ⟨.ref D, rfl, .ref ti, rfl, D, .ref l, rfl, ?_, .int (j : Nat), rfl, by show 1 ≤ sizeLine; decide, fun p1 np1 => ?_⟩
                  · rw [← v1]
                    exact DGet.t hD5 hak
                  · have s10 := Same.laid (o := .lst [V.int (j : Nat)]) np1
                    have mle := keys_le gd mid5.w.nd mid5.w.rn
                    have fle := fact_le six
                    have c5 := mid5.c
                    refine ⟨l, p1, xs, _, rfl, rfl, s10 _ _ (but_same _ _ v2), upd_same, by rw [List.length_singleton, v3, sizeLine_eq]; omega, fun p2 np2 => ?_⟩
                    have s11 := Same.laid (o := .lst (xs ++ [V.int (j : Nat)])) np2
                    have mid7 := (mid5.keep hR s10).keep hR s11
                    have hD7 := s11 _ _ (s10 _ _ hD5)
                    have lk : kvs.length = m'.length := Paired.length k2
                    refine ⟨.ref D, rfl, .ref pg, rfl, D, _, rfl, DPut.t hD7 (s11 _ _ (s10 _ _ hpk)) (by rw [lk, sizeLine_eq]; omega), ?_⟩
                    obtain ⟨us2, hL7, pus2⟩ := mid7.l
                    have nDL : D ≠ L := ne_of hD7 hL7 (fun z => HO.noConfusion z)
                    have np2L : p2 ≠ L := fun z => by
                      rw [z] at np2
                      have hL6 := (mid5.keep hR s10).l
                      obtain ⟨_, z1, _⟩ := hL6
                      rw [z1] at np2
                      cases np2
                    have hL8 : ∀ o, upd (upd (upd H5 p1 (.lst [V.int (j : Nat)])) p2 (.lst (xs ++ [V.int (j : Nat)]))) D o L = some (.lst (us2.map V.ref)) := fun o => by
                      rw [upd_ne (Ne.symm nDL)]
                      exact hL7
                    have lus2 : us2.length = later.length := Paired.length pus2
                    refine ⟨.ref L, rfl, .inl ⟨rfl, _, SqL.of (hL8 _)⟩, .ref pg, rfl, L, _, _, rfl, rfl, hL8 _, by rw [List.length_map, lus2, sizeLine_eq]; omega, ?_⟩
                    refine ⟨_, _, _, _, m' ++ [(dn level[i] (mvs files rows cs)[j], t + 1)], later ++ [dn level[i] (mvs files rows cs)[j]], rfl, ?_, ?_⟩
                    · have nti : ti ≠ L := ne_of ha5 (show H5 L = some (.lst (us2.map V.ref)) by
                        obtain ⟨us3, z1, _⟩ := mid5.l
                        have z2 := s11 _ _ (s10 _ _ z1)
                        rw [hL7] at z2
                        rw [z1, ← z2]) (fun z => HO.noConfusion z)
                      rw [upd_ne nti, upd_ne (ne_of ha5 hD5 (fun z => HO.noConfusion z))]
                      exact s11 _ _ (s10 _ _ ha5)
                    · rw [etake]
                      exact mid7.new hR hgm hm (s11 _ _ (s10 _ _ hpg)) upd_same np2L (by rw [List.length_append, List.length_singleton, v3]) hD7 nD0 hL7
            · refine .inl ⟨⟨_, hmv, by rw [List.length_map]; omega⟩, ?_⟩
              have efull : (mvs files rows cs).take j = mvs files rows cs := List.take_of_length_le (by omega)
              rw [efull] at mid3
              exact ⟨_, _, _, _, _, m', later, rfl, mid3.s0, mid3.r, mid3.f, mid3.l, mid3.w.drop, mid3.c⟩
          · rintro σ H2 ⟨y8, y9, y10, y11, y12, m', later, rfl, mid⟩
            have e0 : level.drop (us.map V.ref).length = [] := List.drop_eq_nil_of_le (by rw [List.length_map, lus]; exact Nat.le_refl _)
            rw [e0] at mid
            have hr2 := mid.r
            rw [hRr] at hr2
            obtain ⟨us2, hL2, pus2⟩ := mid.l
            have c2 := mid.c
            refine ⟨.ref L, rfl, L, _, _, _, _, _, _, m', t + 1, later, rfl, mid.s0.trans but_same, hr2.1.keep (SameS.of but_same), mid.f.keep but_same, ⟨us2, hL2, pair_imp pus2 fun _ _ e => but_same _ _ e⟩, mid.w.out, fun hl => ?_, c2, ?_⟩
            · have := List.length_pos_iff.mpr hl
              omega
            · by_cases z : later = []
              · exact .inl z
              · have := List.length_pos_iff.mpr z
                exact .inr (by omega)
end
end Pup

set_option linter.all false
set_option maxRecDepth 100000
namespace Pup

/-! ascending -/
theorem leT_trans (a b c : List Int) : leT a b = true → leT b c = true → leT a c = true := fun h1 h2 =>
  decide_eq_true (List.le_trans (of_decide_eq_true h1) (of_decide_eq_true h2))
theorem leT_total (a b : List Int) : (leT a b || leT b a) = true := by
  rcases List.le_total a b with h | h
  · rw [show leT a b = true from decide_eq_true h]
    rfl
  · rw [show leT b a = true from decide_eq_true h, Bool.or_true]
theorem srt_perm (ks : List (List Int)) : (srt ks).Perm ks := List.mergeSort_perm _ _
theorem srt_congr {a b : List (List Int)} (h : a.Perm b) : srt a = srt b := by
  refine List.Perm.eq_of_pairwise (le := fun x y => leT x y = true) (fun x y _ _ h1 h2 => List.le_antisymm (of_decide_eq_true h1) (of_decide_eq_true h2)) ?_ ?_ ?_
  · exact List.pairwise_mergeSort leT_trans leT_total a
  · exact List.pairwise_mergeSort leT_trans leT_total b
  · exact (srt_perm a).trans (h.trans (srt_perm b).symm)

/-! what is due -/
def look : List (List Int × Nat) → List Int → Nat
  | [], _ => 0
  | p :: m, k => if p.1 = k then p.2 else look m k
theorem look_mem {m : List (List Int × Nat)} (nd : (m.map (·.1)).Nodup) {a : List Int} {d : Nat} (h : (a, d) ∈ m) : look m a = d := by
  induction m with
  | nil => cases h
  | cons p m ih =>
    rw [List.map_cons, List.nodup_cons] at nd
    unfold look
    rcases List.mem_cons.mp h with e | h
    · rw [← e, if_pos rfl]
    · have ne : ¬ p.1 = a := fun z => nd.1 (by rw [z]; exact List.mem_map.mpr ⟨_, h, rfl⟩)
      rw [if_neg ne]
      exact ih nd.2 h
def dueOf (m : List (List Int × Nat)) : List (List Int × Int) := (srt (m.map (·.1))).map fun k => (k, (look m k : Int))
theorem due_keys (m : List (List Int × Nat)) : (dueOf m).map (·.1) = srt (m.map (·.1)) := by
  unfold dueOf
  rw [List.map_map]
  exact List.map_id _
theorem due_len (m : List (List Int × Nat)) : (dueOf m).length = m.length := by
  unfold dueOf
  rw [List.length_map, (srt_perm _).length_eq, List.length_map]
theorem due_nodup {m : List (List Int × Nat)} (nd : (m.map (·.1)).Nodup) : ((dueOf m).map (·.1)).Nodup := by
  rw [due_keys]
  exact (srt_perm _).nodup_iff.mpr nd
theorem due_mem {m : List (List Int × Nat)} (nd : (m.map (·.1)).Nodup) {a : List Int} {z : Int} : (a, z) ∈ dueOf m ↔ ∃ d : Nat, z = d ∧ (a, d) ∈ m := by
  unfold dueOf
  rw [List.mem_map]
  constructor
  · rintro ⟨k, hk, e⟩
    injection e with e1 e2
    subst e1
    have hk' := (srt_perm _).mem_iff.mp hk
    obtain ⟨⟨b, d⟩, hb, rfl⟩ := List.mem_map.mp hk'
    exact ⟨d, by rw [← e2, look_mem nd hb], hb⟩
  · rintro ⟨d, rfl, h⟩
    exact ⟨a, (srt_perm _).mem_iff.mpr (List.mem_map.mpr ⟨_, h, rfl⟩), by rw [look_mem nd h]⟩
theorem due_congr {m m' : List (List Int × Nat)} (nd : (m.map (·.1)).Nodup) (h : m.Perm m') : dueOf m = dueOf m' := by
  have nd' : (m'.map (·.1)).Nodup := (h.map _).nodup_iff.mp nd
  unfold dueOf
  rw [srt_congr (h.map _)]
  refine List.map_congr_left fun k hk => ?_
  have hk' := (srt_perm _).mem_iff.mp hk
  obtain ⟨⟨b, d⟩, hb, rfl⟩ := List.mem_map.mp hk'
  rw [look_mem nd' hb, look_mem nd (h.mem_iff.mpr hb)]
def nums (m : List (List Int × Nat)) : List Int := m.map fun p => (p.2 : Int)
theorem due_nums {m : List (List Int × Nat)} (nd : (m.map (·.1)).Nodup) : ((dueOf m).map (·.2)).Perm (nums m) := by
  have h : (dueOf m).map (·.2) = (srt (m.map (·.1))).map fun k => (look m k : Int) := by
    unfold dueOf
    rw [List.map_map]
    rfl
  rw [h]
  refine ((srt_perm _).map _).trans (List.Perm.of_eq ?_)
  rw [List.map_map]
  refine List.map_congr_left fun p hp => ?_
  show (look m p.1 : Int) = p.2
  rw [look_mem nd (a := p.1) (d := p.2) hp]
def IsMax (ns : List Int) (x : Int) : Prop := x ∈ ns ∧ ∀ y ∈ ns, y ≤ x
def tally (ns : List Int) (x : Int) : List Int := (List.range (x + 1).toNat).map fun (d : Nat) => ((ns.count (d : Int) : Nat) : Int)
theorem tally_congr {a b : List Int} {x y : Int} (h : a.Perm b) (hx : IsMax a x) (hy : IsMax b y) : tally a x = tally b y := by
  have e : x = y := by
    have h1 := hy.2 x (h.mem_iff.mp hx.1)
    have h2 := hx.2 y (h.mem_iff.mpr hy.1)
    omega
  subst e
  unfold tally
  refine List.map_congr_left fun d _ => ?_
  rw [h.count_eq]

/-! how deep, how many -/
section
variable {moves : List (List Int → List Int)} {start : List Int} {m : List (List Int × Nat)}
theorem below (c : Closed moves start m) : ∀ {d a}, ReachN moves start d a → (a, d) ∈ m → ∀ i ≤ d, ∃ b, (b, i) ∈ m := by
  intro d a r
  induction r with
  | zero =>
    intro h i hi
    obtain rfl : i = 0 := by omega
    exact ⟨_, c.st⟩
  | @step d a f r hf ih =>
    intro h i hi
    obtain ⟨d1, h1, l1⟩ := c.holds r
    obtain ⟨d2, h2, l2⟩ := c.cl _ _ h1 f hf
    have e := key_fun c.nd h h2
    have e1 : d1 = d := by omega
    subst e1
    by_cases z : i = d1 + 1
    · exact ⟨_, by rw [z]; exact h⟩
    · exact ih h1 i (by omega)
theorem depth_lt (c : Closed moves start m) {a : List Int} {d : Nat} (h : (a, d) ∈ m) : d < m.length := by
  have sub : ∀ i ∈ List.range (d + 1), i ∈ m.map (·.2) := fun i hi => by
    obtain ⟨b, hb⟩ := below c (c.rn a d h) h i (by have := List.mem_range.mp hi; omega)
    exact List.mem_map.mpr ⟨_, hb, rfl⟩
  have := len_le_of_sub List.nodup_range sub
  rw [List.length_range, List.length_map] at this
  omega
theorem nums_ok (c : Closed moves start m) {z : Int} (h : z ∈ nums m) : 0 ≤ z ∧ z < m.length := by
  obtain ⟨⟨a, d⟩, hp, rfl⟩ := List.mem_map.mp h
  have := depth_lt c hp
  show 0 ≤ (d : Int) ∧ (d : Int) < m.length
  omega
theorem tally_ok (c : Closed moves start m) (few : m.length ≤ 720) {x : Int} (hx : IsMax (nums m) x) : OkL (tally (nums m) x) := by
  obtain ⟨x0, x1⟩ := nums_ok c hx.1
  refine ⟨?_, ?_⟩
  · unfold tally
    rw [List.length_map, List.length_range]
    omega
  · intro i hi
    obtain ⟨d, _, rfl⟩ := List.mem_map.mp hi
    have := List.count_le_length (a := (d : Int)) (l := nums m)
    have e : (nums m).length = m.length := by
      unfold nums
      rw [List.length_map]
    unfold lit
    omega
theorem due_ok (c : Closed moves start m) (few : m.length ≤ 720) {n : Nat} (six : n ≤ 6) (ar : ∀ a ∈ m.map (·.1), Arr n a) : OkD (dueOf m) := by
  refine ⟨by rw [due_len]; omega, ?_⟩
  rintro ⟨a, z⟩ hp
  obtain ⟨d, rfl, h⟩ := (due_mem c.nd).mp hp
  have ha := ar a (List.mem_map.mpr ⟨_, h, rfl⟩)
  have := depth_lt c h
  refine ⟨⟨by show a.length ≤ 6; rw [ha.len]; exact six, fun i hi => ?_⟩, ?_⟩
  · have := ha.mem.mp hi
    unfold lit
    omega
  · show lit (d : Int)
    unfold lit
    omega
end
end Pup

set_option Elab.async false
set_option linter.all false
set_option maxRecDepth 100000
set_option maxHeartbeats 4000000
namespace Pup
open PySem PySem.Spec PyProof.Rows L2
section
variable {P : Program} {w : World} {K : PySem.W.Frag} {mg : Str → Option Value} {base : Heap}

theorem lc_valsT {d : Addr} {o : Obj} {kvs : List (List L2.Key × V)} {g : TG} {tt : TT} {te : TE} {vs : List Nat} {σ : L2.St} {H1 : Hp} {D : Addr} {Qd : Hp → Prop} (Pv : Nat → Hp → Prop) (h0 : Pv 0 (upd H1 D (.lst []))) (hl : ∀ i H, i ≤ kvs.length → Pv i H → H d = some (.frz o (.dT kvs)))
    (hs : ∀ i k x H, kvs[i]? = some (k, x) → Pv i H → g x (wipe σ vs) H fun σ2 H2 => wipe σ2 vs = wipe σ vs ∧ tt σ2 H2 fun b H3 =>
      if b = true then te σ2 H3 fun y H4 => ∃ acc, H4 D = some (.lst acc) ∧ acc.length < sizeLine ∧ Pv (i + 1) (upd H4 D (.lst (acc ++ [y]))) else Pv (i + 1) H3) (hd : ∀ H, Pv kvs.length H → Qd H) :
    ∃ W : Nat → Nat → Hp → Prop, (∃ m, W 0 m (upd H1 D (.lst []))) ∧ ∀ i m H, W i m H →
      ((ItdT d o kvs).stop i H ∧ Qd H) ∨ ((ItdT d o kvs).go i H ∧ ∃ Nx : Hp → Prop, (∀ H', Nx H' → ∃ m', m' < m ∧ W (i + 1) m' H') ∧ ∀ x H', (ItdT d o kvs).yld i H x H' → g x (wipe σ vs) H' fun σ2 H2 => wipe σ2 vs = wipe σ vs ∧ tt σ2 H2 fun b H3 =>
        if b = true then te σ2 H3 fun y H4 => ∃ acc, H4 D = some (.lst acc) ∧ acc.length < sizeLine ∧ Nx (upd H4 D (.lst (acc ++ [y]))) else Nx H3) := by
  refine ⟨fun i m H => m = kvs.length - i ∧ i ≤ kvs.length ∧ Pv i H, ⟨kvs.length, by simp, Nat.zero_le _, h0⟩, ?_⟩
  rintro i m H ⟨rfl, hi, p⟩
  have q := hl i H hi p
  by_cases hlt : i < kvs.length
  · refine .inr ⟨⟨q, hlt⟩, Pv (i + 1), fun H' p' => ⟨kvs.length - (i + 1), by omega, rfl, hlt, p'⟩, fun x H' y => ?_⟩
    obtain ⟨e, k, y⟩ := y
    subst e
    exact hs i k x _ y p
  · have e : i = kvs.length := by omega
    subst e
    exact .inl ⟨⟨q, Nat.le_refl _⟩, hd H p⟩
theorem nums_at {m : List (List Int × Nat)} {i : Nat} (h : i < m.length) : (nums m)[i]? = some (m[i].2 : Int) := by
  unfold nums
  rw [List.getElem?_map, List.getElem?_eq_getElem h]
  rfl
theorem vi_snoc {a : List Int} {x : Int} : vi a ++ [V.int x] = vi (a ++ [x]) := by
  unfold vi
  rw [List.map_append]
  rfl

theorem pe_bmK {X : Cx} {K : PySem.W.Frag} {o e : Expr} {es : List Expr} {to : TE} {t : TA} {name : Str} {apos cpos : Pos} {T id : String} {r : V → List V → Hp → VK → Prop} (h : X.K = K) (pa : PlainAttrs T) (slot : Slot T name id) (hty : typeOf (.builtin id) = pure (.type "method_descriptor")) (hm : MtR X id r) (ho : PE X o to) (ha : PA X (e :: es) t)
    (hbase : attributeBase o name X.env (eval o X.env) = eval o X.env := by rfl)
    (hfew : ((backTo cpos (starEach (e :: es) X.env)).all (fun x => !x.1) && (backToKw cpos (keywordEach [] X.env)).all (fun x => x.1.isSome)
      && decide ((e :: es).length + ([] : List Keyword).length + (if ([] : List Keyword).isEmpty then 0 else 1) < 30)) = true := by rfl)
    (hline : (apos.endLine == cpos.line) = true := by rfl) (hs : starEach (e :: es) X.env = (false, eval e X.env) :: starEach es X.env := by rfl) (hplain : (backTo cpos (starEach es X.env)).any (·.1) = false := by rfl) :
    PE X (.Call (.Attribute o name apos) (e :: es) [] cpos) (tBM K T r to t) := by
  subst h
  exact pe_bm pa slot hty hm ho ha hbase hfew hline hs hplain
def rLenK (K : PySem.W.Frag) : List V → Hp → VK → Prop := fun xs H Q => ∃ p ys, xs = [V.ref p] ∧ (SqL K H p ys ∨ SqT K H p ys) ∧ Q (V.int ys.length) H
theorem call_lenK {X : Cx} {K : PySem.W.Frag} (h : X.K = K) : CallR X (.builtin "len") (rLenK K) := by
  subst h
  exact call_len_seq
theorem mt_lcountK {X : Cx} {K : PySem.W.Frag} (h : X.K = K) : MtR X "list.count" (rCntI K) := by
  subst h
  exact mt_lcount
theorem found_keys {H : Hp} {kvs : List (List L2.Key × V)} {m : List (List Int × Nat)} (h : Paired (FR H) kvs m) : keysOf kvs (m.map (·.1)) := by
  unfold keysOf
  induction h with
  | nil => rfl
  | cons r t ih =>
    rw [List.map_cons, List.map_cons, List.map_cons, ih, r.1]
theorem dI_new {m : List (List Int × Int)} {a : List Int} (h : a ∉ m.map (·.1)) : valV (m.map fun p => (p.1.map (Sum.inl : Int → L2.Key), V.int p.2)) (a.map Sum.inl) = none := by
  induction m with
  | nil => rfl
  | cons p m ih =>
    rw [List.map_cons, List.mem_cons, not_or] at h
    rw [List.map_cons, valV_neg (fun e => h.1 (inl_inj e).symm)]
    exact ih h.2
theorem dI_val {m : List (List Int × Int)} (nd : (m.map (·.1)).Nodup) {a : List Int} {z : Int} (h : (a, z) ∈ m) : valV (m.map fun p => (p.1.map (Sum.inl : Int → L2.Key), V.int p.2)) (a.map Sum.inl) = some (.int z) := by
  induction m with
  | nil => cases h
  | cons p m ih =>
    rw [List.map_cons, List.nodup_cons] at nd
    rw [List.map_cons]
    rcases List.mem_cons.mp h with e | h
    · rw [← e]
      exact valV_pos rfl
    · rw [valV_neg (fun e => nd.1 (by rw [inl_inj e]; exact List.mem_map.mpr ⟨_, h, rfl⟩))]
      exact ih nd.2 h

/-! levels -/
def sp_levels : Sp := fun vs H Q _ => ∃ (cl : Addr) (cs : List Cal) (files rows : Nat), vs = [.int files, .int rows, .ref cl] ∧ CallsAt H cl cs ∧ Okl files rows ∧ (∀ c ∈ cs, Valid files c) ∧ cs.length ≤ 1000 ∧
  ∀ H' p m x, L2.Same H H' → H p = none → Closed (fns files rows cs) (iota (files * rows)) m → IsMax (nums m) x → H' p = some (.lst (vi (tally (nums m) x))) → Q (.ref p) H'
theorem ok_levels (T : Txt K mg) : FnOk P w K mg base CX0 5 T.f_levels T.d_levels ps_levels sp_levels := by
  refine T.F_levels.ok sc_levels (fun vs H Q E h => ?_) (fun cdv A outer s H vs Q E hr h => ?_)
  · obtain ⟨cl, cs, files, rows, rfl, _⟩ := h
    rfl
  · obtain ⟨cl, cs, files, rows, rfl, hcl, ok, va, few, q⟩ := h
    have hu := hu_of hr
    obtain ⟨f0, f1, r0, r1, six, npos⟩ := okl_lt ok
    refine ⟨_, (pss_cons (ps_set (i := 3) sc_levels.nd rfl (.inr rfl) (pe_lc (own := [("indexes", 4)]) (g := gName 4) (tt := tYes) (by rfl) sc_levels.nd (pi_valuesT (pe_call (ok_reached T) hr (by rfl) T.g_reached T.F_reached.kp T.b_reached .nil pass0 (pa_cons (pv 0) (pa_cons (pv 1) (pa_cons (pv 2) pa_nil))))) (blkOk_by (own := [("indexes", 4)]) (N := N_levels) (sc := defScope st_levels) (by decide +kernel)) (fun _ _ _ _ _ => pg_name (i := 4) sc_levels.nd rfl (Or.inl rfl)) (fun _ _ _ _ _ => pts_nil) (fun _ _ _ _ _ => (pe_callB (call_lenK (K := K) rfl) (by rfl) T.n_len (by decide +kernel) (pa_cons (pv 4) pa_nil)))))
      (pss_one (ps_ret (pe_lc (own := [("many", 5)]) (g := gName 5) (tt := tYes) (by rfl) sc_levels.nd (pi_range1 (by rfl) T.n_range (pa_cons (pe_op op_add (pe_callB (cr_max rfl) (by rfl) T.n_max (by decide +kernel) (pa_cons (pv 3) pa_nil)) pe_int) pa_nil)) (blkOk_by (own := [("many", 5)]) (N := N_levels) (sc := defScope st_levels) (by decide +kernel)) (fun _ _ _ _ _ => pg_name (i := 5) sc_levels.nd rfl (Or.inl rfl)) (fun _ _ _ _ _ => pts_nil) (fun _ _ _ _ _ => (pe_bmK (K := K) rfl PySem.F.plainAttrs_list PySem.F.slot_list_count PySem.F.type_list_count (mt_lcountK (K := K) rfl) (pv 3) (pa_cons (pv 5) pa_nil))))))), ?_⟩
    refine ⟨.int files, rfl, .int rows, rfl, .ref cl, rfl, cl, cs, files, rows, rfl, hcl, ok, va, few, fun H1 D m s1 nD fD cD => ?_⟩
    have mle : m.length ≤ 720 := Nat.le_trans (closed_len (mvs_gd ok va) cD) (fact_le six)
    obtain ⟨kvs, k1, k2⟩ := fD
    refine ⟨D, kvs, rfl, .inr ⟨k1, fun o lg nlg => ?_⟩⟩
    have sS : SameS H1 (upd H1 D (.frz o (.dT kvs))) := SameS.put k1
    have pk := pair_imp k2 fun _ _ e => e.keep sS
    have sL : L2.Same H (upd H1 D (.frz o (.dT kvs))) := fun b u e => by
      rw [upd_ne (ne_of_none e nD)]
      exact s1 _ _ e
    have eD : upd H1 D (.frz o (.dT kvs)) D = some (.frz o (.dT kvs)) := upd_same
    generalize upd H1 D (.frz o (.dT kvs)) = HL at nlg sS pk sL eD ⊢
    have lk : kvs.length = m.length := Paired.length pk
    refine lc_valsT (kvs := kvs) (fun i H2 => L2.Same HL H2 ∧ H2 lg = some (.lst (vi ((nums m).take i)))) ⟨Same.laid nlg, upd_same⟩ (fun i H2 _ p => p.1 _ _ eD) ?_ ?_
    · rintro i k x H2 hx ⟨sm, hl⟩
      have hi : i < m.length := by
        rw [← lk]
        exact (List.getElem?_eq_some_iff.mp hx).1
      obtain ⟨kv, hkv, _, l, xs, e1, e2, e3⟩ := paired_at pk hi
      rw [hx] at hkv
      cases hkv
      obtain rfl : x = .ref l := e1
      refine ⟨rfl, .ref l, rfl, l, xs, rfl, .inl (SqL.of (sm _ _ e2)), _, hl, ?_, fun b u e => ?_, ?_⟩
      · unfold vi
        rw [List.length_map, List.length_take, sizeLine_eq]
        omega
      · rw [upd_ne (ne_of_none e nlg)]
        exact sm _ _ e
      · rw [upd_same, e3, vi_snoc, List.take_succ, nums_at hi]
        rfl
    · rintro H2 ⟨sm, hl⟩
      have full : (nums m).take kvs.length = nums m := List.take_of_length_le (by unfold nums; rw [List.length_map, lk]; exact Nat.le_refl _)
      rw [full] at hl
      have nlen : (nums m).length = m.length := by
        unfold nums
        rw [List.length_map]
      have pos : 0 < m.length := List.length_pos_of_mem cD.st
      refine ⟨.ref lg, rfl, lg, nums m, rfl, SqL.of hl, by rw [nlen]; exact pos, fun mx h1 h2 => ?_⟩
      obtain ⟨z0, z1⟩ := nums_ok cD h1
      refine ⟨mx, 1, rfl, rfl, mx + 1, rfl, by omega, by omega, fun p np => ?_⟩
      have nlp : H2 lg ≠ none := by
        rw [hl]
        exact fun z => nomatch z
      refine lc_range (lo := 0) (n := (mx + 1).toNat) (fun i H3 => L2.Same H2 H3 ∧ H3 p = some (.lst (vi ((tally (nums m) mx).take i)))) ⟨Same.laid np, upd_same⟩ ?_ ?_
      · rintro i H3 hi ⟨sm3, hp⟩
        refine ⟨rfl, .ref lg, rfl, .inl ⟨rfl, _, SqL.of (sm3 _ _ hl)⟩, .int (0 + i), rfl, lg, nums m, 0 + i, rfl, rfl, SqL.of (sm3 _ _ hl), _, hp, ?_, fun b u e => ?_, ?_⟩
        · unfold vi
          rw [List.length_map, List.length_take, sizeLine_eq]
          omega
        · rw [upd_ne (ne_of_none e np)]
          exact sm3 _ _ e
        · have ta : (tally (nums m) mx)[i]? = some (((nums m).count (i : Int) : Nat) : Int) := by
            unfold tally
            rw [List.getElem?_map, List.getElem?_range hi]
            rfl
          rw [upd_same, vi_snoc, List.take_succ, ta, Int.zero_add]
          rfl
      · rintro H3 ⟨sm3, hp⟩
        refine q H3 p m mx (sL.trans (sm.trans sm3)) ((sL.trans sm).free np) cD ⟨h1, h2⟩ ?_
        rw [hp, List.take_of_length_le]
        unfold tally
        rw [List.length_map, List.length_range]
        exact Nat.le_refl _

/-! bounds -/
def sp_bounds : Sp := fun vs H Q _ => ∃ (cl : Addr) (cs : List Cal) (files rows : Nat), vs = [.int files, .int rows, .ref cl] ∧ CallsAt H cl cs ∧ Okl files rows ∧ (∀ c ∈ cs, Valid files c) ∧ cs.length ≤ 1000 ∧
  ∀ H' p m, L2.Same H H' → H p = none → Closed (fns files rows cs) (iota (files * rows)) m → H' p = some (dI (dueOf m)) → Q (.ref p) H'
theorem ok_bounds (T : Txt K mg) : FnOk P w K mg base CX0 5 T.f_bounds T.d_bounds ps_bounds sp_bounds := by
  refine T.F_bounds.ok sc_bounds (fun vs H Q E h => ?_) (fun cdv A outer s H vs Q E hr h => ?_)
  · obtain ⟨cl, cs, files, rows, rfl, _⟩ := h
    rfl
  · obtain ⟨cl, cs, files, rows, rfl, hcl, ok, va, few, q⟩ := h
    have hu := hu_of hr
    obtain ⟨f0, f1, r0, r1, six, npos⟩ := okl_lt ok
    refine ⟨_, (pss_cons (ps_set (i := 3) sc_bounds.nd rfl (.inr rfl) (pe_call (ok_reached T) hr (by rfl) T.g_reached T.F_reached.kp T.b_reached .nil pass0 (pa_cons (pv 0) (pa_cons (pv 1) (pa_cons (pv 2) pa_nil)))))
      (pss_one (ps_ret (pe_dcT (own := [("arrangement", 4)]) (g := gName 4) hr.units0 (by rfl) sc_bounds.nd (pi_list (pe_callB (call_sortD rfl hr.units) (by rfl) T.n_sorted (by decide +kernel) (pa_cons (pv 3) pa_nil))) (blkOk_by (own := [("arrangement", 4)]) (N := N_bounds) (sc := defScope st_bounds) (by decide +kernel)) (fun _ _ _ _ _ => pg_name (i := 4) sc_bounds.nd rfl (Or.inl rfl)) (fun _ _ _ _ _ => pv 4) (fun _ _ _ _ _ => (pe_callB (call_lenK (K := K) rfl) (by rfl) T.n_len (by decide +kernel) (pa_cons (pe_dget hu (pv 3) (pv 4) (fun _ _ => rfl)) pa_nil))))))), ?_⟩
    refine ⟨.int files, rfl, .int rows, rfl, .ref cl, rfl, cl, cs, files, rows, rfl, hcl, ok, va, few, fun H1 D m s1 nD fD cD => ?_⟩
    have mle : m.length ≤ 720 := Nat.le_trans (closed_len (mvs_gd ok va) cD) (fact_le six)
    have car := closed_arr (mvs_gd ok va) cD
    obtain ⟨kvs, k1, k2⟩ := fD
    refine ⟨.ref D, rfl, D, kvs, m.map (·.1), rfl, k1, found_keys k2, fun k hk => ?_, fun p cs2 np e1 e2 => ?_⟩
    · intro z
      have := (car k hk).len
      rw [z] at this
      have : (0 : Nat) = files * rows := this
      omega
    · have s2 := Same.laid (o := .lst (cs2.map fun c => V.ref c.1)) np
      have k1' := s2 _ _ k1
      have pk := pair_imp k2 fun _ _ e => e.keep (SameS.of s2)
      have e2' : ∀ c ∈ cs2, upd H1 p (.lst (cs2.map fun c => V.ref c.1)) c.1 = some (.tup (vi c.2)) := fun c hc => s2 _ _ (e2 c hc)
      have hp : upd H1 p (.lst (cs2.map fun c => V.ref c.1)) p = some (.lst (cs2.map fun c => V.ref c.1)) := upd_same
      have s3 := s1.trans s2
      generalize upd H1 p (.lst (cs2.map fun c => V.ref c.1)) = HL at k1' pk e2' hp s3 ⊢
      clear s2
      have ls : cs2.length = m.length := by
        have := congrArg List.length e1
        rw [List.length_map, (srt_perm _).length_eq, List.length_map] at this
        exact this
      refine ⟨p, rfl, ⟨_, SqL.of hp⟩, fun z nz => ?_⟩
      refine ⟨fun i n H2 => n = cs2.length - i ∧ i ≤ cs2.length ∧ L2.Same HL H2 ∧ H2 z = some (dI ((dueOf m).take i)), ⟨_, rfl, Nat.zero_le _, Same.laid nz, upd_same⟩, ?_⟩
      rintro i n H2 ⟨rfl, hi, sm, hz⟩
      have hp2 : SqL K H2 p (cs2.map fun c => V.ref c.1) := SqL.of (sm _ _ hp)
      by_cases hlt : i < cs2.length
      · have hxi : (cs2.map fun c => V.ref c.1)[i]? = some (.ref cs2[i].1) := by
          rw [List.getElem?_map, List.getElem?_eq_getElem hlt]
          rfl
        refine .inr ⟨⟨_, _, hp2, hxi⟩, fun H' => L2.Same HL H' ∧ H' z = some (dI ((dueOf m).take (i + 1))), fun H' x => ⟨_, by omega, rfl, hlt, x.1, x.2⟩, ?_⟩
        rintro x H' ⟨rfl, fx⟩
        have ex : x = .ref cs2[i].1 := Option.some.inj ((fx _ hp2).symm.trans hxi)
        subst ex
        have hki : cs2[i].2 ∈ m.map (·.1) := by
          refine (srt_perm _).mem_iff.mp ?_
          rw [← e1]
          exact List.mem_map.mpr ⟨_, List.getElem_mem hlt, rfl⟩
        obtain ⟨⟨a, d⟩, hb1, hb2⟩ := List.mem_map.mp hki
        obtain rfl : a = cs2[i].2 := hb2
        obtain ⟨l, xs, v1, v2, v3⟩ := val_in pk cD.nd hb1
        have hc := e2' _ (List.getElem_mem hlt)
        have hck : H' cs2[i].1 = some (.tup ((cs2[i].2.map Sum.inl).map kV)) := by
          rw [vi_key]
          exact sm _ _ hc
        refine ⟨rfl, .ref cs2[i].1, rfl, .ref D, rfl, .ref cs2[i].1, rfl, D, .ref l, rfl, ?_, l, xs, rfl, .inl (SqL.of (sm _ _ v2)), _, cs2[i].2.map Sum.inl, cs2[i].1, rfl, hck, hz, ?_, fun b u e => ?_, ?_⟩
        · rw [← v1]
          exact DGet.t (sm _ _ k1') hck
        · rw [List.length_map, List.length_take, sizeLine_eq]
          omega
        · rw [upd_ne (ne_of_none e nz)]
          exact sm _ _ e
        · have hd : (dueOf m)[i]? = some (cs2[i].2, (d : Int)) := by
            unfold dueOf
            rw [← e1, List.getElem?_map, List.getElem?_map, List.getElem?_eq_getElem hlt]
            show some (cs2[i].2, (look m cs2[i].2 : Int)) = _
            rw [look_mem cD.nd hb1]
          have nw : valV (((dueOf m).take i).map fun p => (p.1.map (Sum.inl : Int → L2.Key), V.int p.2)) (cs2[i].2.map Sum.inl) = none := by
            refine dI_new ?_
            intro hm
            have nd := due_nodup cD.nd
            obtain ⟨hl, he⟩ := List.getElem?_eq_some_iff.mp hd
            rw [List.map_take] at hm
            obtain ⟨j, hj, hje⟩ := List.mem_iff_getElem.mp hm
            rw [List.length_take] at hj
            have h1 : ((dueOf m).map (·.1))[j]'(by omega) = ((dueOf m).map (·.1))[i]'(by rw [List.length_map]; exact hl) := by
              have e3 : ((dueOf m).map (·.1))[i]'(by rw [List.length_map]; exact hl) = cs2[i].2 := by
                rw [List.getElem_map, he]
              rw [e3]
              rw [List.getElem_take] at hje
              exact hje
            have := (List.getElem_inj nd).mp h1
            omega
          rw [upd_same, putK_new _ nw, v3]
          unfold dI
          congr 2
          rw [List.take_succ, hd, List.map_append]
          rfl
      · refine .inl ⟨⟨_, hp2, by rw [List.length_map]; omega⟩, q H2 z m (s3.trans sm) (s3.free nz) cD ?_⟩
        rw [hz, List.take_of_length_le]
        rw [due_len]
        omega
end
end Pup

set_option Elab.async false
set_option linter.all false
set_option maxRecDepth 100000
set_option maxHeartbeats 4000000
namespace Pup
open PySem PySem.Spec PyProof.Rows L2
section
variable {P : Program} {w : World} {K : PySem.W.Frag} {mg : Str → Option Value} {base : Heap}

theorem unlock {H H' : Hp} {a : Addr} {u : HO} {od : Obj} (ha : H a = some u) (s : L2.Same (upd H a (.frz od u)) H') : H' a = some (.frz od u) ∧ L2.Same H (upd H' a u) := by
  have e := s _ _ (upd_same (H := H) (a := a) (o := .frz od u))
  refine ⟨e, fun b o h => ?_⟩
  by_cases hb : b = a
  · subst hb
    rw [ha] at h
    cases h
    exact upd_same
  · rw [upd_ne hb]
    exact s _ _ (by rw [upd_ne hb]; exact h)
theorem lc_keysT {d : Addr} {o : Obj} {kvs : List (List L2.Key × V)} {g : TG} {tt : TT} {te : TE} {vs : List Nat} {σ : L2.St} {H1 : Hp} {D : Addr} {Qd : Hp → Prop} (Pv : Nat → Hp → Prop) (h0 : Pv 0 (upd H1 D (.lst []))) (hl : ∀ i H, i ≤ kvs.length → Pv i H → H d = some (.frz o (.dT kvs)))
    (hs : ∀ i k v q H, kvs[i]? = some (k, v) → H q = some (.tup (k.map kV)) → Pv i H → g (.ref q) (wipe σ vs) H fun σ2 H2 => wipe σ2 vs = wipe σ vs ∧ tt σ2 H2 fun b H3 =>
      if b = true then te σ2 H3 fun y H4 => ∃ acc, H4 D = some (.lst acc) ∧ acc.length < sizeLine ∧ Pv (i + 1) (upd H4 D (.lst (acc ++ [y]))) else Pv (i + 1) H3) (hd : ∀ H, Pv kvs.length H → Qd H) :
    ∃ W : Nat → Nat → Hp → Prop, (∃ m, W 0 m (upd H1 D (.lst []))) ∧ ∀ i m H, W i m H →
      ((Itkt d o kvs).stop i H ∧ Qd H) ∨ ((Itkt d o kvs).go i H ∧ ∃ Nx : Hp → Prop, (∀ H', Nx H' → ∃ m', m' < m ∧ W (i + 1) m' H') ∧ ∀ x H', (Itkt d o kvs).yld i H x H' → g x (wipe σ vs) H' fun σ2 H2 => wipe σ2 vs = wipe σ vs ∧ tt σ2 H2 fun b H3 =>
        if b = true then te σ2 H3 fun y H4 => ∃ acc, H4 D = some (.lst acc) ∧ acc.length < sizeLine ∧ Nx (upd H4 D (.lst (acc ++ [y]))) else Nx H3) := by
  refine ⟨fun i m H => m = kvs.length - i ∧ i ≤ kvs.length ∧ Pv i H, ⟨kvs.length, by simp, Nat.zero_le _, h0⟩, ?_⟩
  rintro i m H ⟨rfl, hi, p⟩
  have q := hl i H hi p
  by_cases hlt : i < kvs.length
  · refine .inr ⟨⟨q, hlt⟩, Pv (i + 1), fun H' p' => ⟨kvs.length - (i + 1), by omega, rfl, hlt, p'⟩, fun x H' y => ?_⟩
    obtain ⟨e, k, v, z, y1, y2, y3⟩ := y
    subst e
    subst y2
    exact hs i k v z _ y1 y3 p
  · have e : i = kvs.length := by omega
    subst e
    exact .inl ⟨⟨q, Nat.le_refl _⟩, hd H p⟩
theorem due_row {m : List (List Int × Nat)} {i : Nat} {k : List L2.Key} {v : V} (nd : (m.map (·.1)).Nodup) (h : ((dueOf m).map fun p => (p.1.map (Sum.inl : Int → L2.Key), V.int p.2))[i]? = some (k, v)) :
    ∃ a d, (a, d) ∈ m ∧ k = a.map Sum.inl ∧ v = .int (d : Nat) := by
  rw [List.getElem?_map] at h
  cases hd : (dueOf m)[i]? with
  | none =>
    rw [hd] at h
    cases h
  | some p =>
    rw [hd] at h
    obtain ⟨d, e, hm⟩ := (due_mem nd).mp (show (p.1, p.2) ∈ dueOf m from List.mem_of_getElem? hd)
    cases h
    exact ⟨p.1, d, hm, rfl, congrArg V.int e⟩
theorem due_at {m : List (List Int × Nat)} (nd : (m.map (·.1)).Nodup) {a : List Int} {d : Nat} (h : (a, d) ∈ m) : valV ((dueOf m).map fun p => (p.1.map (Sum.inl : Int → L2.Key), V.int p.2)) (a.map Sum.inl) = some (.int (d : Nat)) :=
  dI_val (due_nodup nd) ((due_mem nd).mpr ⟨d, rfl, h⟩)

/-! is_bound -/
def sp_is_bound : Sp := fun vs H Q _ => ∃ (cl a : Addr) (cs : List Cal) (files rows : Nat) (m : List (List Int × Nat)), vs = [.int files, .int rows, .ref cl, .ref a] ∧ CallsAt H cl cs ∧ Okl files rows ∧ (∀ c ∈ cs, Valid files c) ∧ cs.length ≤ 1000 ∧
  H a = some (dI (dueOf m)) ∧ Closed (fns files rows cs) (iota (files * rows)) m ∧ ∀ H', L2.Same H H' → Q (.bl true) H'
theorem ok_is_bound (T : Txt K mg) : FnOk P w K mg base CX0 4 T.f_is_bound T.d_is_bound ps_is_bound sp_is_bound := by
  refine T.F_is_bound.ok sc_is_bound (fun vs H Q E h => ?_) (fun cdv A outer s H vs Q E hr h => ?_)
  · obtain ⟨cl, a, cs, files, rows, m, rfl, _⟩ := h
    rfl
  · obtain ⟨cl, a, cs, files, rows, m, rfl, hcl, ok, va, few, ha, cD, q⟩ := h
    have hu := hu_of hr
    obtain ⟨f0, f1, r0, r1, six, npos⟩ := okl_lt ok
    have gd := mvs_gd ok va
    have mle : m.length ≤ 720 := Nat.le_trans (closed_len gd cD) (fact_le six)
    have car := closed_arr gd cD
    obtain ⟨n, hn⟩ : ∃ n, n = files * rows := ⟨_, rfl⟩
    rw [← hn] at six npos gd car cD
    have en : (files : Int) * rows = (n : Int) := by rw [hn, Int.natCast_mul]
    have ld : (dueOf m).length = m.length := due_len m
    refine ⟨_, (pss_cons (ps_asg (pe_tup (pa_cons (pe_op op_mul (pv 0) (pv 1)) (pa_cons (pe_lc (own := [("call", 10)]) (g := gName 10) (tt := tYes) (by rfl) sc_is_bound.nd (pi_list (pv 2)) (blkOk_by (own := [("call", 10)]) (N := N_is_bound) (sc := defScope st_is_bound) (by decide +kernel)) (fun _ _ _ _ _ => pg_name (i := 10) sc_is_bound.nd rfl (Or.inl rfl)) (fun _ _ _ _ _ => pts_nil) (fun _ _ _ _ _ => (pe_call (ok_goals_of T) hr (by rfl) T.g_goals_of T.F_goals_of.kp T.b_goals_of .nil pass0 (pa_cons (pv 0) (pa_cons (pv 1) (pa_cons (pv 10) pa_nil)))))) pa_nil))) (pg_tup rfl (pgs_cons (pg_name (i := 4) sc_is_bound.nd rfl (.inr rfl)) (pgs_cons (pg_name (i := 5) sc_is_bound.nd rfl (.inl rfl)) pgs_nil))))
      (pss_cons (ps_if (PW.pt (pw_or (pt_not (pt_val (pe_callB call_isi (by rfl) T.n_isinstance (by decide +kernel) (pa_cons (pv 3) (pa_cons (pe_bltn (v := .ty "dict") (by rfl) T.n_dict (by decide +kernel) rfl) pa_nil))))) (pw_or1 (pt_not (pt_val (pe_lock (pe_callB (cr_all rfl) (by rfl) T.n_all (by decide +kernel) (pa_cons (pe_lc (own := [("key", 11)]) (g := gName 11) (tt := tYes) (by rfl) sc_is_bound.nd (pi_keys (pv 3)) (blkOk_by (own := [("key", 11)]) (N := N_is_bound) (sc := defScope st_is_bound) (by decide +kernel)) (fun _ _ _ _ _ => pg_name (i := 11) sc_is_bound.nd rfl (Or.inl rfl)) (fun _ _ _ _ _ => pts_nil) (fun _ _ _ _ _ => (pe_call (ok_is_arrangement T) hr (by rfl) T.g_is_arrangement T.F_is_arrangement.kp T.b_is_arrangement .nil pass0 (pa_cons (pv 4) (pa_cons (pv 11) pa_nil))))) pa_nil)))))))) (pss_one (ps_ret pe_bl)) pss_nil)
      (pss_cons (ps_if (pt_not (pt_val (pe_lock (pe_callB (cr_all rfl) (by rfl) T.n_all (by decide +kernel) (pa_cons (pe_lc (own := [("number", 6)]) (g := gName 6) (tt := tYes) (by rfl) sc_is_bound.nd (pi_valuesT (pv 3)) (blkOk_by (own := [("number", 6)]) (N := N_is_bound) (sc := defScope st_is_bound) (by decide +kernel)) (fun _ _ _ _ _ => pg_name (i := 6) sc_is_bound.nd rfl (Or.inl rfl)) (fun _ _ _ _ _ => pts_nil) (fun _ _ _ _ _ => (pe_and (pe_call (ok_is_integer T) (hr.mono (by decide)) (by rfl) T.g_is_integer T.F_is_integer.kp T.b_is_integer .nil pass0 (pa_cons (pv 6) pa_nil)) (pe_one (pe_cmpR op_ge (pv 6) pe_int (nomark _)))))) pa_nil))))) (pss_one (ps_ret pe_bl)) pss_nil)
      (pss_cons (ps_if (pt_cmpR op_ne (pe_dget1 hu (pv 3) (pe_tupRg rfl (by rfl) T.n_tuple (prg_1 (by rfl) T.n_range (pv 4))) ⟨rfl, rfl, rfl, rfl⟩) pe_int (nomark _)) (pss_one (ps_ret pe_bl)) pss_nil)
      (pss_cons (ps_lock (ps_for PassesOwn.never rfl (pi_itemsT (pv 3)) (pg_tup rfl (pgs_cons (pg_name (i := 7) sc_is_bound.nd rfl (.inl rfl)) (pgs_cons (pg_name (i := 6) sc_is_bound.nd rfl (.inl rfl)) pgs_nil)))
      (pss_one (ps_for PassesOwn.never rfl (pi_list (pv 5)) (pg_name (i := 8) sc_is_bound.nd rfl (.inl rfl))
      (pss_cons (ps_set (i := 9) sc_is_bound.nd rfl (.inl rfl) (pe_call (ok_done T) (hr.mono (by decide)) (by rfl) T.g_done T.F_done.kp T.b_done .nil pass0 (pa_cons (pv 7) (pa_cons (pv 8) pa_nil))))
      (pss_one (ps_if (PW.pt (pw_or (pt_cmp (pc_dnotin hu (pv 9) (pv 3))) (pw_or1 (pt_cmpR op_gt (pe_dget hu (pv 3) (pv 9) (fun _ _ => rfl)) (pe_op op_add (pv 6) pe_int) (nomark _))))) (pss_one (ps_ret pe_bl)) pss_nil)))))))
      (pss_one (ps_ret pe_bl))))))), ?_⟩
    obtain ⟨ts, hts, pts⟩ := hcl
    have lts : ts.length = cs.length := Paired.length pts
    refine ⟨.int files, rfl, .int rows, rfl, files, rows, rfl, rfl, .inl ⟨by omega, by omega⟩, ?_⟩
    refine ⟨.ref cl, rfl, cl, rfl, ⟨_, SqL.of hts⟩, fun mv nmv => ?_⟩
    have s0 := Same.laid (o := .lst []) nmv
    refine lc_list (xs := ts.map V.ref) (fun i H1 => L2.Same H H1 ∧ ∃ ls : List Addr, H1 mv = some (.lst (ls.map V.ref)) ∧ Paired (fun t g => H1 t = some (.lst (vn g)) ∧ t ≠ mv) ls ((mvs files rows cs).take i)) ⟨s0, [], upd_same, .nil⟩ (fun i H1 _ p => SqL.of (p.1 _ _ hts)) ?_ ?_
    · rintro i x H1 hx ⟨sm, ls, hm, pl⟩
      have hi : i < cs.length := by
        have := (List.getElem?_eq_some_iff.mp hx).1
        rw [List.length_map] at this
        omega
      obtain ⟨a, ha, hca⟩ := paired_at pts hi
      have ex : x = .ref a := by
        have := refs_get ha
        rw [hx] at this
        exact Option.some.inj this
      subst ex
      refine ⟨rfl, .int files, rfl, .int rows, rfl, .ref a, rfl, a, cs[i], files, rows, rfl, sm _ _ hca, ok, va _ (List.getElem_mem hi), fun H2 p s2 np hp => ?_⟩
      have hm2 := s2 _ _ hm
      have npm : p ≠ mv := fun z => by
        rw [z, hm] at np
        cases np
      refine ⟨_, hm2, ?_, fun b u e => ?_, ls ++ [p], ?_, ?_⟩
      · have := Paired.length pl
        rw [List.length_take] at this
        rw [List.length_map, sizeLine_eq]
        omega
      · rw [upd_ne (ne_of_none e nmv)]
        exact s2 _ _ (sm _ _ e)
      · rw [upd_same, List.map_append]
        rfl
      · have et : (mvs files rows cs)[i]? = some (goals files rows cs[i]) := by
          unfold mvs
          rw [List.getElem?_map, List.getElem?_eq_getElem hi]
          rfl
        rw [List.take_succ, et]
        refine Paired.snoc (pair_imp pl fun t g e => ⟨?_, e.2⟩) ⟨?_, npm⟩
        · rw [upd_ne e.2]
          exact s2 _ _ e.1
        · rw [upd_ne npm]
          exact hp
    · rintro H1 ⟨s1, ls, hm, pl⟩
      have elen : (mvs files rows cs).take (ts.map V.ref).length = mvs files rows cs := by
        refine List.take_of_length_le ?_
        unfold mvs
        rw [List.length_map, List.length_map]
        omega
      rw [elen] at pl
      have gA : GoalsAt H1 mv (mvs files rows cs) := ⟨ls, hm, pair_imp pl fun _ _ e => e.1⟩
      have two : (2 : Nat) ≤ sizeLine := by decide
      refine ⟨two, fun tp ntp => ⟨tp, _, rfl, SqT.of upd_same, rfl, _, _, rfl, _, _, rfl, rfl, ?_⟩⟩
      dsimp only
      rw [en]
      have s2 := Same.laid (o := .tup [V.int n, V.ref mv]) ntp
      have gB := gA.keep (SameS.of s2)
      have s3 := s1.trans s2
      have aB := s3 _ _ ha
      generalize upd H1 tp (.tup [V.int n, V.ref mv]) = HB at gB s3 aB ⊢
      clear s1 s2 gA hm
      -- isinstance
      refine ⟨.ref a, rfl, .ref a, .ty "dict", .type "dict", .type "dict", true, rfl, .ty _, .base (.dT aB), kit_ty (by decide +kernel), true, rfl, iteF ?_⟩
      -- the keys
      refine ⟨a, _, aB, trivial, fun od => ?_⟩
      refine ⟨.ref a, rfl, a, od, rfl, .inr ⟨_, upd_same, fun D1 nD1 => ?_⟩⟩
      have sS : SameS HB (upd HB a (.frz od (dI (dueOf m)))) := SameS.put aB
      refine lc_keysT (fun i H2 => L2.Same (upd HB a (.frz od (dI (dueOf m)))) H2 ∧ H2 D1 = some (.lst ((List.replicate i true).map V.bl))) ⟨Same.laid nD1, upd_same⟩ (fun i H2 _ p => p.1 _ _ upd_same) ?_ ?_
      · rintro i k v t H2 hx ht ⟨sm, hD⟩
        obtain ⟨b, d, hb, rfl, rfl⟩ := due_row cD.nd hx
        have hi : i < m.length := by
          have := (List.getElem?_eq_some_iff.mp hx).1
          rw [List.length_map, ld] at this
          exact this
        rw [vi_key] at ht
        refine ⟨rfl, .int n, rfl, .ref t, rfl, t, b, n, rfl, ht, car b (List.mem_map.mpr ⟨_, hb, rfl⟩), six, fun H3 s4 => ⟨_, s4 _ _ hD, ?_, fun c u e => ?_, ?_⟩⟩
        · rw [List.length_map, List.length_replicate, sizeLine_eq]
          omega
        · rw [upd_ne (ne_of_none e nD1)]
          exact s4 _ _ (sm _ _ e)
        · rw [upd_same, List.replicate_succ', List.map_append]
          rfl
      · rintro H2 ⟨sm, hD⟩
        obtain ⟨hf, s4⟩ := unlock aB sm
        refine ⟨D1, _, rfl, SqL.of hD, hf, true, ?_, iteF ?_⟩
        · congr 1
          rw [List.all_eq_true]
          intro b hb
          exact (List.mem_replicate.mp hb).2
        -- the values
        have gC := gB.keep (SameS.of s4)
        have s5 := s3.trans s4
        have aC := s4 _ _ aB
        generalize upd H2 a (dI (dueOf m)) = HC at gC s5 aC ⊢
        clear s4 sm hD gB s3 aB sS
        refine ⟨a, _, aC, trivial, fun od2 => ?_⟩
        refine ⟨.ref a, rfl, a, _, rfl, .inl ⟨od2, upd_same, fun D2 nD2 => ?_⟩⟩
        refine lc_valsT (fun i H2 => L2.Same (upd HC a (.frz od2 (dI (dueOf m)))) H2 ∧ H2 D2 = some (.lst ((List.replicate i true).map V.bl))) ⟨Same.laid nD2, upd_same⟩ (fun i H2 _ p => p.1 _ _ upd_same) ?_ ?_
        · rintro i k v H2 hx ⟨sm, hD⟩
          obtain ⟨b, d, hb, rfl, rfl⟩ := due_row cD.nd hx
          have hi : i < m.length := by
            have := (List.getElem?_eq_some_iff.mp hx).1
            rw [List.length_map, ld] at this
            exact this
          refine ⟨rfl, .int d, rfl, d, rfl, true, rfl, iteT ⟨.int d, rfl, d, 0, rfl, rfl, _, hD, ?_, fun c u e => ?_, ?_⟩⟩
          · rw [List.length_map, List.length_replicate, sizeLine_eq]
            omega
          · rw [upd_ne (ne_of_none e nD2)]
            exact sm _ _ e
          · dsimp only
            rw [upd_same, decide_eq_true (show (0 : Int) ≤ d by omega), List.replicate_succ', List.map_append]
            rfl
        · rintro H3 ⟨sm, hD⟩
          obtain ⟨hf2, s4⟩ := unlock aC sm
          refine ⟨D2, _, rfl, SqL.of hD, hf2, true, ?_, iteF ?_⟩
          · congr 1
            rw [List.all_eq_true]
            intro b hb
            exact (List.mem_replicate.mp hb).2
          have gE := gC.keep (SameS.of s4)
          have s6 := s5.trans s4
          have aE := s4 _ _ aC
          generalize upd H3 a (dI (dueOf m)) = HE at gE s6 aE ⊢
          clear s4 sm hD gC s5 aC
          -- the start
          refine ⟨.ref a, rfl, a, rfl, (show IsD HE a from .inr ⟨_, .inl aE⟩), .int n, rfl, (n : Int), rfl, RgOk.of_le (by omega) (by omega) (by omega) (by omega), fun z nz => ?_⟩
          rw [rgV_iota]
          have s7 := Same.laid (o := .tup (vi (iota n))) nz
          have aF := s7 _ _ aE
          have zF : upd HE z (.tup (vi (iota n))) z = some (.tup (((iota n).map (Sum.inl : Int → L2.Key)).map kV)) := by
            rw [vi_key]
            exact upd_same
          refine ⟨_, DGet.t aF zF, ?_⟩
          rw [due_at cD.nd cD.st]
          refine ⟨rfl, _, rfl, iteNS rfl ?_⟩
          have gF := gE.keep (SameS.of s7)
          have s8 := s6.trans s7
          generalize upd HE z (.tup (vi (iota n))) = HF at gF s8 aF ⊢
          clear s7 gE s6 aE zF nz
          -- the loop
          refine ⟨a, _, aF, trivial, fun od3 => ?_⟩
          have gL : GoalsAt (upd HF a (.frz od3 (dI (dueOf m)))) mv (mvs files rows cs) := gF.keep (SameS.put aF)
          have aL : upd HF a (.frz od3 (dI (dueOf m))) a = some (.frz od3 (dI (dueOf m))) := upd_same
          have fin : ∀ H', L2.Same (upd HF a (.frz od3 (dI (dueOf m)))) H' → H' a = some (.frz od3 (dI (dueOf m))) ∧ L2.Same H (upd H' a (dI (dueOf m))) := fun H' sm => ⟨(unlock aF sm).1, s8.trans (unlock aF sm).2⟩
          generalize upd HF a (.frz od3 (dI (dueOf m))) = HL at gL aL fin ⊢
          refine ⟨.ref a, rfl, a, _, rfl, .inl ⟨od3, aL, fun i k σ H4 => ∃ (y6 y7 y8 y9 y10 y11 : Option V), σ = [some (.int files), some (.int rows), some (.ref cl), some (.ref a), some (.int n), some (.ref mv), y6, y7, y8, y9, y10, y11] ∧ L2.Same HL H4 ∧ i + k = m.length,
            ⟨_, none, none, none, none, none, none, rfl, Same.refl _, Nat.zero_add _⟩, ?_⟩⟩
          rintro i k σ H4 ⟨y6, y7, y8, y9, y10, y11, rfl, sm4, eik⟩
          by_cases hi : i < m.length
          · refine .inr ⟨⟨sm4 _ _ aL, by rw [List.length_map, ld]; exact hi⟩, fun σ' H' => ∃ (y6 y7 y8 y9 y10 y11 : Option V), σ' = [some (.int files), some (.int rows), some (.ref cl), some (.ref a), some (.int n), some (.ref mv), y6, y7, y8, y9, y10, y11] ∧ L2.Same HL H', ?_, ?_⟩
            · rintro σ' H' ⟨z6, z7, z8, z9, z10, z11, e1, e2⟩
              exact ⟨k - 1, by omega, z6, z7, z8, z9, z10, z11, e1, e2, by omega⟩
            · rintro x H5 ⟨tp2, t, ky, v, hx, rfl, ntp2, ht, rfl⟩
              obtain ⟨b, d, hb, rfl, rfl⟩ := due_row cD.nd hx
              rw [vi_key] at ht
              have s9 := Same.laid (o := .tup [V.ref t, V.int d]) ntp2
              have sm5 := sm4.trans s9
              have ht5 := s9 _ _ ht
              refine ⟨tp2, _, rfl, SqT.of upd_same, rfl, _, _, rfl, _, _, rfl, rfl, ?_⟩
              obtain ⟨ls, hls, pls⟩ := gL.keep (SameS.of sm5)
              have lls : ls.length = (mvs files rows cs).length := Paired.length pls
              generalize upd H4 tp2 (.tup [V.ref t, V.int d]) = H6 at sm5 ht5 hls pls ⊢
              refine ⟨.ref mv, rfl, mv, rfl, ⟨_, SqL.of hls⟩, for_list (xs := ls.map V.ref) (fun j σ H7 => ∃ (y8 y9 y10 y11 : Option V), σ = [some (.int files), some (.int rows), some (.ref cl), some (.ref a), some (.int n), some (.ref mv), some (.int d), some (.ref t), y8, y9, y10, y11] ∧ L2.Same H6 H7)
                ⟨_, _, _, _, rfl, Same.refl _⟩ ?_ ?_ ?_⟩
              · rintro j σ H7 _ ⟨_, _, _, _, rfl, sm7⟩
                exact SqL.of (sm7 _ _ hls)
              · rintro j x σ H7 hx7 ⟨y8, y9, y10, y11, rfl, sm7⟩
                have hj : j < (mvs files rows cs).length := by
                  have := (List.getElem?_eq_some_iff.mp hx7).1
                  rw [List.length_map] at this
                  omega
                obtain ⟨gj, hgj, hg⟩ := paired_at pls hj
                have ex : x = .ref gj := Option.some.inj (hx7.symm.trans (refs_get hgj))
                subst ex
                have hgm : (mvs files rows cs)[j] ∈ mvs files rows cs := List.getElem_mem hj
                have arr : Arr n b := car b (List.mem_map.mpr ⟨_, hb, rfl⟩)
                refine ⟨.ref t, rfl, .ref gj, rfl, t, gj, b, (mvs files rows cs)[j], n, rfl, sm7 _ _ ht5, sm7 _ _ hg, arr.len, gd _ hgm, six, fun H8 pg s10 npg hpg => ?_⟩
                obtain ⟨d2, hd2, led⟩ := cD.cl b d hb (fun a => dn a (mvs files rows cs)[j]) (List.mem_map.mpr ⟨_, hgm, rfl⟩)
                have hpk : H8 pg = some (.tup (((dn b (mvs files rows cs)[j]).map (Sum.inl : Int → L2.Key)).map kV)) := by
                  rw [vi_key]
                  exact hpg
                have a8 := s10 _ _ (sm7 _ _ (sm5 _ _ aL))
                have dg : DGet H8 a (.ref pg) (some (.int d2)) := by
                  rw [← due_at cD.nd hd2]
                  exact .inr ⟨_, _, pg, .inr ⟨od3, a8⟩, rfl, hpk, rfl⟩
                refine ⟨.ref pg, rfl, .ref a, rfl, a, _, rfl, dg, _, rfl, iteF ?_⟩
                refine ⟨.ref a, rfl, .ref pg, rfl, a, _, rfl, dg, .int d, rfl, d, 1, rfl, rfl, d2, (d : Int) + 1, rfl, rfl, _, rfl, ?_⟩
                rw [decide_eq_false (show ¬ ((d : Int) + 1 < d2) by omega)]
                exact iteF ⟨_, _, _, _, rfl, sm7.trans s10⟩
              · rintro σ H7 ⟨y8, y9, y10, y11, rfl, sm7⟩
                exact ⟨_, _, _, _, _, _, rfl, sm5.trans sm7⟩
          · refine .inl ⟨⟨sm4 _ _ aL, by rw [List.length_map, ld]; omega⟩, ?_⟩
            obtain ⟨e1, e2⟩ := fin _ sm4
            exact ⟨e1, q _ e2⟩
end
end Pup

set_option Elab.async false
set_option linter.all false
set_option maxRecDepth 100000
set_option maxHeartbeats 4000000
namespace Pup
open PySem PySem.Spec PyProof.Rows L2
section
variable {P : Program} {w : World} {K : PySem.W.Frag} {mg : Str → Option Value} {base : Heap}

/-- the bag at b, its cells at c -/
def Bag (H : Hp) (b c : Addr) (cells : List Int) : Prop := (∃ (x0 x1 : Int) (x2 : Nat), H b = some (.lst [.int x0, .int x1, .int x2, .ref c])) ∧ H c = some (.lst (vi cells))
/-- all stays but the bag, and the bag is one -/
structure Draw (b c : Addr) (cells : List Int) (H H' : Hp) : Prop where
  s : L2.Same (but b H) (but b H')
  g : Bag H' b c cells
theorem Bag.ne {H : Hp} {b c : Addr} {cells : List Int} (g : Bag H b c cells) : c ≠ b := fun z => by
  obtain ⟨⟨x0, x1, x2, e⟩, e2⟩ := g
  rw [z, e] at e2
  cases cells with
  | nil => cases e2
  | cons x cells =>
    cases cells with
    | nil => cases e2
    | cons x2 cells =>
      cases cells with
      | nil => cases e2
      | cons x3 cells =>
        cases cells with
        | nil => cases e2
        | cons x4 cells => cases e2
theorem Bag.put {H : Hp} {b c : Addr} {cells : List Int} (g : Bag H b c cells) (x0 x1 : Int) (x2 : Nat) : Draw b c cells H (upd H b (.lst [.int x0, .int x1, .int x2, .ref c])) := by
  refine ⟨?_, ⟨x0, x1, x2, upd_same⟩, ?_⟩
  · rw [but_upd]
    exact Same.refl _
  · rw [upd_ne g.ne]
    exact g.2
theorem Bag.keep {H H' : Hp} {b c : Addr} {cells : List Int} (s : L2.Same H H') (g : Bag H b c cells) : Bag H' b c cells := by
  obtain ⟨⟨x0, x1, x2, e⟩, e2⟩ := g
  exact ⟨⟨x0, x1, x2, s _ _ e⟩, s _ _ e2⟩
theorem Draw.refl {H : Hp} {b c : Addr} {cells : List Int} (g : Bag H b c cells) : Draw b c cells H H := ⟨Same.refl _, g⟩
theorem Draw.trans {H H1 H2 : Hp} {b c : Addr} {cells : List Int} (x : Draw b c cells H H1) (y : Draw b c cells H1 H2) : Draw b c cells H H2 := ⟨x.s.trans y.s, y.g⟩
theorem Draw.of {H H1 : Hp} {b c : Addr} {cells : List Int} (g : Bag H b c cells) (s : L2.Same H H1) : Draw b c cells H H1 := ⟨Same.but s, g.keep s⟩
theorem Draw.at {H H1 : Hp} {b c : Addr} {cells : List Int} (x : Draw b c cells H H1) {a : Addr} {o : HO} (n : a ≠ b) (h : H a = some o) : H1 a = some o := by
  have := x.s a o (by rw [but_ne n]; exact h)
  rw [but_ne n] at this
  exact this
/-- what stands beside the bag -/
def Held (b : Addr) (H : Hp) (a : Addr) (o : HO) : Prop := but b H a = some o
theorem Held.of {b : Addr} {H : Hp} {a : Addr} {o : HO} (n : a ≠ b) (h : H a = some o) : Held b H a o := by
  unfold Held
  rw [but_ne n]
  exact h
theorem Held.to {b : Addr} {H : Hp} {a : Addr} {o : HO} (h : Held b H a o) : H a = some o := but_same _ _ h
theorem Held.ne {b : Addr} {H : Hp} {a : Addr} {o : HO} (h : Held b H a o) : a ≠ b := fun z => by
  unfold Held at h
  rw [z, but_self] at h
  cases h
theorem new_ne {b c p : Addr} {cells : List Int} {H : Hp} (g : Bag H b c cells) (n : H p = none) : p ≠ b := fun z => by
  obtain ⟨⟨x0, x1, x2, e⟩, _⟩ := g
  rw [z, e] at n
  cases n

/-! the bag -/
def sp_l_bag (K : PySem.W.Frag) : Sp := fun vs H Q _ => ∃ (a : Addr) (ns : List Int), vs = [.ref a] ∧ SqL K H a (vi ns) ∧ ∀ H' p c cells, L2.Same H H' → H p = none → Bag H' p c cells → Q (.ref p) H'
theorem ok_l_bag (T : Txt K mg) : FnOk P w K mg base CX0 1 T.f_l_bag T.d_l_bag ps_l_bag (sp_l_bag K) := by
  refine T.F_l_bag.ok sc_l_bag (fun vs H Q E h => ?_) (fun cdv A outer s H vs Q E hr h => ?_)
  · obtain ⟨a, ns, rfl, _⟩ := h
    rfl
  · obtain ⟨a, ns, rfl, hs, q⟩ := h
    refine ⟨_, (pss_one (ps_ret (pe_lst (pa_cons pe_int (pa_cons pe_int (pa_cons pe_int (pa_cons (pe_lc (own := [("_law_cell", 1)]) (g := gName 1) (tt := tYes) (by rfl) sc_l_bag.nd (pi_list (pe_slice sl_list (pv 0) po_none (po_some pe_int))) (blkOk_by (own := [("_law_cell", 1)]) (N := N_l_bag) (sc := defScope st_l_bag) (by decide +kernel)) (fun _ _ _ _ _ => pg_name (i := 1) sc_l_bag.nd rfl (Or.inl rfl)) (fun _ _ _ _ _ => pts_nil) (fun _ _ _ _ _ => (pe_callB call_abs (by rfl) T.n_abs (by decide +kernel) (pa_cons (pv 1) pa_nil)))) pa_nil))))))), ?_⟩
    refine ⟨.ref a, rfl, 63, rfl, a, vi ns, rfl, hs, fun l nl => ?_⟩
    have s0 := Same.laid (o := .lst (cutV (vi ns) none (some 63))) nl
    obtain ⟨ms, hms, lms⟩ : ∃ ms : List Int, cutV (vi ns) none (some 63) = vi ms ∧ ms.length ≤ 63 := by
      have h0 : HT.sIx (vi ns).length 0 none = 0 := rfl
      unfold cutV
      rw [h0]
      refine ⟨(ns.drop 0).take (HT.sIx (vi ns).length (vi ns).length (some 63) - 0), ?_, ?_⟩
      · unfold vi
        rw [List.map_take, List.map_drop]
      · rw [List.length_take]
        have h1 : HT.sIx (vi ns).length (vi ns).length (some 63) ≤ 63 := by
          unfold HT.sIx
          simp
          omega
        omega
    rw [hms] at s0 ⊢
    refine ⟨l, rfl, ⟨_, SqL.of upd_same⟩, fun c nc => ?_⟩
    have s1 := Same.laid (o := .lst []) nc
    refine lc_list (xs := vi ms) (fun i H2 => L2.Same (upd H l (.lst (vi ms))) H2 ∧ H2 c = some (.lst (vi ((ms.map fun z => if z < 0 then -z else z).take i)))) ⟨s1, upd_same⟩ (fun i H2 _ p => SqL.of (p.1 _ _ upd_same)) ?_ ?_
    · rintro i x H2 hx ⟨sm, hc⟩
      have hi : i < ms.length := by
        have := (List.getElem?_eq_some_iff.mp hx).1
        unfold vi at this
        rw [List.length_map] at this
        exact this
      rw [vi_at hi] at hx
      cases hx
      refine ⟨rfl, .int ms[i], rfl, ms[i], rfl, _, hc, ?_, fun d u e => ?_, ?_⟩
      · unfold vi
        rw [List.length_map, List.length_take, sizeLine_eq]
        omega
      · rw [upd_ne (ne_of_none e nc)]
        exact sm _ _ e
      · rw [upd_same, vi_snoc, List.take_succ, List.getElem?_map, List.getElem?_eq_getElem hi]
        rfl
    · rintro H2 ⟨sm, hc⟩
      refine ⟨by show 4 ≤ sizeLine; decide, fun p np => ?_⟩
      have s2 := Same.laid (o := .lst [V.int 0, V.int 1234567891, V.int 0, V.ref c]) np
      exact q _ p c _ (s0.trans (sm.trans s2)) ((s0.trans sm).free np) ⟨⟨0, 1234567891, 0, upd_same⟩, s2 _ _ hc⟩

/-! take -/
def sp_l_take : Sp := fun vs H Q _ => ∃ (b c : Addr) (cells : List Int) (upto : Int), vs = [.ref b, .int upto] ∧ 0 < upto ∧ upto < 2 ^ 200 ∧ Bag H b c cells ∧ ∀ r H', 0 ≤ r → r < upto → Draw b c cells H H' → Q (.int r) H'
theorem ok_l_take (T : Txt K mg) : FnOk P w K mg base CX0 1 T.f_l_take T.d_l_take ps_l_take sp_l_take := by
  refine T.F_l_take.ok sc_l_take (fun vs H Q E h => ?_) (fun cdv A outer s H vs Q E hr h => ?_)
  · obtain ⟨b, c, cells, upto, rfl, _⟩ := h
    rfl
  · obtain ⟨b, c, cells, upto, rfl, u0, u1, g, q⟩ := h
    refine ⟨_, (Evl.pss_cut (ps_if (pt_cmpR op_eq (pe_ix ix_list (pv 0) pe_int (fun _ _ => rfl)) pe_int (nomark _)) (pss_cons (ps_set (i := 2) sc_l_take.nd rfl (.inl rfl) pe_int) (Evl.pss_cut (ps_if (pt_cmpR op_lt (pe_ix ix_list (pv 0) pe_int (fun _ _ => rfl)) (pe_callB call_len_seq (by rfl) T.n_len (by decide +kernel) (pa_cons (pe_ix ix_list (pv 0) pe_int (fun _ _ => rfl)) pa_nil)) (nomark _)) (pss_one (ps_set (i := 2) sc_l_take.nd rfl (.inl rfl) (pe_ix ix_list (pe_ix ix_list (pv 0) pe_int (fun _ _ => rfl)) (pe_ix ix_list (pv 0) pe_int (fun _ _ => rfl)) (fun _ _ => rfl)))) pss_nil)
      (pss_cons (ps_augS (pv 0) pe_int get_list pe_int ip_add set_list) (Evl.pss_cut (ps_if (pt_cmpR op_ge (pv 2) pe_int (nomark _)) (pss_one (ps_asg (pv 2) (pg_sub (pv 0) pe_int set_list))) pss_nil)
      (pss_cons (ps_set (i := 3) sc_l_take.nd rfl (.inl rfl) (pe_op op_add (pe_op op_add (pe_op op_mul (pe_ix ix_list (pv 0) pe_int (fun _ _ => rfl)) pe_int) (pe_op op_mod (pe_callTy call_int1 (by rfl) T.n_int (by decide +kernel) (pa_cons (pv 2) pa_nil)) pe_int)) (pe_op op_mul pe_int (pe_ix ix_list (pv 0) pe_int (fun _ _ => rfl)))))
      (pss_one (ps_asg (pe_op op_mod (pe_callTy call_int1 (by rfl) T.n_int (by decide +kernel) (pa_cons (pv 3) pa_nil)) pe_int) (pg_sub (pv 0) pe_int set_list)))))))) pss_nil)
      (pss_cons (ps_if (pt_cmpR op_gt (pe_ix ix_list (pv 0) pe_int (fun _ _ => rfl)) pe_int (nomark _)) (pss_cons (ps_set (i := 4) sc_l_take.nd rfl (.inl rfl) (pe_op op_mod (pe_callTy call_int1 (by rfl) T.n_int (by decide +kernel) (pa_cons (pe_ix ix_list (pv 0) pe_int (fun _ _ => rfl)) pa_nil)) (pv 1)))
      (pss_cons (ps_asg (pe_op op_fdivW (pe_callTy call_int1 (by rfl) T.n_int (by decide +kernel) (pa_cons (pe_ix ix_list (pv 0) pe_int (fun _ _ => rfl)) pa_nil)) (pv 1)) (pg_sub (pv 0) pe_int set_list))
      (pss_one (ps_ret (pv 4))))) pss_nil)
      (pss_cons (ps_set (i := 5) sc_l_take.nd rfl (.inl rfl) (pe_op op_mod (pe_callTy call_int1 (by rfl) T.n_int (by decide +kernel) (pa_cons (pe_op op_mul (pe_op op_add (pe_ix ix_list (pv 0) pe_int (fun _ _ => rfl)) pe_int) pe_int) pa_nil)) pe_int))
      (pss_cons (ps_set (i := 6) sc_l_take.nd rfl (.inl rfl) (pe_op op_mod (pe_callTy call_int1 (by rfl) T.n_int (by decide +kernel) (pa_cons (pe_op op_mul (pe_op op_mod (pe_callTy call_int1 (by rfl) T.n_int (by decide +kernel) (pa_cons (pe_op op_mul (pv 5) (pv 5)) pa_nil)) pe_int) pe_int) pa_nil)) pe_int))
      (pss_one (ps_ret (pe_op op_mod (pe_callTy call_int1 (by rfl) T.n_int (by decide +kernel) (pa_cons (pe_op op_fdiv (pv 6) pe_int) pa_nil)) (pv 1)))))))), ?_⟩
    refine ⟨fun σ H1 => ∃ (y2 y3 y4 y5 y6 : Option V), σ = [some (.ref b), some (.int upto), y2, y3, y4, y5, y6] ∧ Draw b c cells H H1, ?_, ?_⟩
    · obtain ⟨x0, x1, x2, hb⟩ := g.1
      refine ⟨.ref b, rfl, b, _, 0, .int x0, rfl, rfl, SqL.of hb, atI_nat (j := 0) rfl, rfl, _, rfl, ite2 (fun e => ?_) (fun e => ⟨_, _, _, _, _, rfl, Draw.refl g⟩)⟩
      refine ⟨fun σ H1 => ∃ cell : Int, H1 = H ∧ σ = [some (.ref b), some (.int upto), some (.int cell), none, none, none, none], ?_, ?_⟩
      · refine ⟨.ref b, rfl, b, _, 2, .int x2, rfl, rfl, SqL.of hb, atI_nat (j := 2) rfl, .ref b, rfl, b, _, 3, .ref c, rfl, rfl, SqL.of hb, atI_nat (j := 3) rfl, c, _, rfl, .inl (SqL.of g.2), x2, _, rfl, rfl, _, rfl, ite2 (fun e => ?_) (fun e => ⟨0, rfl, rfl⟩)⟩
        have hlt : x2 < cells.length := by
          have := of_decide_eq_true e
          unfold vi at this
          rw [List.length_map] at this
          omega
        exact ⟨.ref b, rfl, b, _, 3, .ref c, rfl, rfl, SqL.of hb, atI_nat (j := 3) rfl, .ref b, rfl, b, _, 2, .int x2, rfl, rfl, SqL.of hb, atI_nat (j := 2) rfl, c, _, x2, .int cells[x2], rfl, rfl, SqL.of g.2, atI_nat (vi_at hlt), cells[x2], rfl, rfl⟩
      · rintro σ H1 ⟨cell, rfl, rfl⟩
        refine ⟨.ref b, rfl, b, _, 2, .int x2, rfl, rfl, SqL.of hb, by decide, rfl, x2, 1, rfl, rfl, b, _, 2, 2, rfl, rfl, hb, rfl, ?_⟩
        have d1 := g.put x0 x1 (x2 + 1)
        have hb1 : upd H1 b (.lst [.int x0, .int x1, .int ((x2 : Int) + 1), .ref c]) b = some (.lst [.int x0, .int x1, .int ((x2 : Int) + 1), .ref c]) := upd_same
        refine ⟨fun σ H2 => σ = [some (.ref b), some (.int upto), some (.int cell), none, none, none, none] ∧ Draw b c cells H1 H2, ?_, ?_⟩
        · refine ⟨.int cell, rfl, cell, 1000000000000000000, rfl, rfl, _, rfl, ite2 (fun e => ?_) (fun e => ⟨rfl, d1⟩)⟩
          refine ⟨.int cell, rfl, .ref b, rfl, b, _, 0, 0, rfl, rfl, hb1, rfl, rfl, ?_⟩
          exact d1.trans (d1.g.put cell x1 (x2 + 1))
        · rintro σ H2 ⟨rfl, d2⟩
          obtain ⟨z0, z1, z2, hb2⟩ := d2.g.1
          refine ⟨.ref b, rfl, b, _, 1, .int z1, rfl, rfl, SqL.of hb2, atI_nat (j := 1) rfl, z1, 48271, rfl, rfl, .inr ⟨by decide, by decide⟩, ?_⟩
          refine ⟨.int cell, rfl, .inl ⟨cell, rfl, cell, 2147483647, rfl, rfl, (show (0 : Int) < 2147483647 by decide), _, _, rfl, rfl, ?_⟩⟩
          refine ⟨.ref b, rfl, b, _, 2, .int z2, rfl, rfl, SqL.of hb2, atI_nat (j := 2) rfl, 7919, z2, rfl, rfl, .inl ⟨by decide, by decide⟩, _, _, rfl, rfl, ?_⟩
          refine ⟨_, rfl, .inl ⟨_, rfl, _, 2147483647, rfl, rfl, (show (0 : Int) < 2147483647 by decide), .ref b, rfl, b, _, 1, 1, rfl, rfl, hb2, rfl, ?_⟩⟩
          exact ⟨_, _, _, _, _, rfl, d2.trans (d2.g.put z0 _ z2)⟩
    · rintro σ H1 ⟨y2, y3, y4, y5, y6, rfl, d⟩
      obtain ⟨x0, x1, x2, hb⟩ := d.g.1
      have m1 : ∀ z : Int, 0 ≤ z % upto ∧ z % upto < upto := fun z => ⟨Int.emod_nonneg _ (by omega), Int.emod_lt_of_pos _ u0⟩
      refine ⟨.ref b, rfl, b, _, 0, .int x0, rfl, rfl, SqL.of hb, atI_nat (j := 0) rfl, x0, 0, rfl, rfl, _, rfl, ite2 (fun e => ?_) (fun e => ?_)⟩
      · refine ⟨.ref b, rfl, b, _, 0, .int x0, rfl, rfl, SqL.of hb, atI_nat (j := 0) rfl, .inl ⟨x0, rfl, .int upto, rfl, x0, upto, rfl, rfl, u0, ?_⟩⟩
        refine ⟨.ref b, rfl, b, _, 0, .int x0, rfl, rfl, SqL.of hb, atI_nat (j := 0) rfl, .inl ⟨x0, rfl, .int upto, rfl, x0, upto, rfl, rfl, wide_div (b := 200) u0 (by omega) (by decide) (by decide), .ref b, rfl, b, _, 0, 0, rfl, rfl, hb, rfl, ?_⟩⟩
        exact ⟨_, rfl, q _ _ (m1 _).1 (m1 _).2 (d.trans (d.g.put _ x1 x2))⟩
      · refine ⟨.ref b, rfl, b, _, 1, .int x1, rfl, rfl, SqL.of hb, atI_nat (j := 1) rfl, x1, 1, rfl, rfl, _, 39373, rfl, rfl, .inr ⟨by decide, by decide⟩, .inl ⟨_, rfl, _, 1000000007, rfl, rfl, (show (0 : Int) < 1000000007 by decide), ?_⟩⟩
        have b0 := Int.emod_nonneg ((x1 + 1) * 39373) (show (1000000007 : Int) ≠ 0 by decide)
        have b1 := Int.emod_lt_of_pos ((x1 + 1) * 39373) (show (0 : Int) < 1000000007 by decide)
        generalize hz : ((x1 + 1) * 39373) % 1000000007 = z at b0 b1
        refine ⟨_, rfl, _, rfl, _, _, rfl, rfl, .inl ⟨?_, ?_⟩, ?_⟩
        · show -(2 ^ 64) < ((x1 + 1) * 39373) % 1000000007
          omega
        · show ((x1 + 1) * 39373) % 1000000007 < 2 ^ 64
          omega
        refine .inl ⟨_, rfl, _, 998244353, rfl, rfl, (show (0 : Int) < 998244353 by decide), _, 30011, rfl, rfl, .inr ⟨by decide, by decide⟩, .inl ⟨_, rfl, _, 998244353, rfl, rfl, (show (0 : Int) < 998244353 by decide), ?_⟩⟩
        refine ⟨_, rfl, _, 7, rfl, rfl, ⟨by decide, by decide⟩, .inl ⟨_, rfl, .int upto, rfl, _, upto, rfl, rfl, u0, ?_⟩⟩
        exact q _ _ (m1 _).1 (m1 _).2 d

/-! one -/
def sp_l_one : Sp := fun vs H Q _ => ∃ (b c l : Addr) (cells : List Int) (xs : List V), vs = [.ref b, .ref l] ∧ Held b H l (.lst xs) ∧ 0 < xs.length ∧ xs.length < 1000 ∧ Bag H b c cells ∧ ∀ x H', x ∈ xs → Draw b c cells H H' → Q x H'
theorem ok_l_one (T : Txt K mg) : FnOk P w K mg base CX0 2 T.f_l_one T.d_l_one ps_l_one sp_l_one := by
  refine T.F_l_one.ok sc_l_one (fun vs H Q E h => ?_) (fun cdv A outer s H vs Q E hr h => ?_)
  · obtain ⟨b, c, l, cells, xs, rfl, _⟩ := h
    rfl
  · obtain ⟨b, c, l, cells, xs, rfl, hl, pos, lt, g, q⟩ := h
    refine ⟨_, (pss_one (ps_ret (pe_ix ix_list (pv 1) (pe_call (ok_l_take T) hr (by rfl) T.g_l_take T.F_l_take.kp T.b_l_take .nil pass0 (pa_cons (pv 0) (pa_cons (pe_callB call_len_seq (by rfl) T.n_len (by decide +kernel) (pa_cons (pv 1) pa_nil)) pa_nil))) (fun _ _ => rfl)))), ?_⟩
    refine ⟨.ref l, rfl, .ref b, rfl, .ref l, rfl, l, xs, rfl, .inl (SqL.of hl.to), b, c, cells, _, rfl, by omega, by omega, g, fun r H' r0 r1 d => ?_⟩
    have hl' := d.s _ _ hl
    obtain ⟨k, rfl⟩ : ∃ k : Nat, r = k := ⟨r.toNat, by omega⟩
    have hi : k < xs.length := by omega
    exact ⟨l, xs, k, xs[k], rfl, rfl, SqL.of (Held.to hl'), atI_nat (List.getElem?_eq_getElem hi), q _ _ (List.getElem_mem hi) d⟩
end
end Pup

set_option Elab.async false
set_option linter.all false
set_option maxRecDepth 100000
set_option maxHeartbeats 4000000
namespace Pup
open PySem PySem.Spec PyProof.Rows L2
section
variable {P : Program} {w : World} {K : PySem.W.Frag} {mg : Str → Option Value} {base : Heap}

theorem Held.keep {b c : Addr} {cells : List Int} {H H' : Hp} (d : Draw b c cells H H') {a : Addr} {o : HO} (h : Held b H a o) : Held b H' a o := d.s _ _ h
theorem Held.same {b : Addr} {H H' : Hp} (s : L2.Same H H') {a : Addr} {o : HO} (h : Held b H a o) : Held b H' a o := Same.but s _ _ h

/-! mixed -/
def sp_l_mixed : Sp := fun vs H Q _ => ∃ (b c l : Addr) (cells ns : List Int), vs = [.ref b, .ref l] ∧ Held b H l (.lst (vi ns)) ∧ ns.length < 1000 ∧ Bag H b c cells ∧ ∀ p ms H', ms.Perm ns → Draw b c cells H H' → H p = none → Held b H' p (.lst (vi ms)) → Q (.ref p) H'
theorem ok_l_mixed (T : Txt K mg) : FnOk P w K mg base CX0 2 T.f_l_mixed T.d_l_mixed ps_l_mixed sp_l_mixed := by
  refine T.F_l_mixed.ok sc_l_mixed (fun vs H Q E h => ?_) (fun cdv A outer s H vs Q E hr h => ?_)
  · obtain ⟨b, c, l, cells, ns, rfl, _⟩ := h
    rfl
  · obtain ⟨b, c, l, cells, ns, rfl, hl, lt, g, q⟩ := h
    refine ⟨_, (pss_cons (ps_set (i := 2) sc_l_mixed.nd rfl (.inl rfl) (pe_lst pa_nil))
      (pss_cons (ps_for PassesOwn.never rfl (pi_list (pv 1)) (pg_name (i := 3) sc_l_mixed.nd rfl (.inl rfl))
      (pss_one (ps_expr (pe_bm PySem.F.plainAttrs_list PySem.F.slot_list_insert PySem.F.type_list_insert mt_insert (pv 2) (pa_cons (pe_call (ok_l_take T) hr (by rfl) T.g_l_take T.F_l_take.kp T.b_l_take .nil pass0 (pa_cons (pv 0) (pa_cons (pe_op op_add (pe_callB call_len_seq (by rfl) T.n_len (by decide +kernel) (pa_cons (pv 2) pa_nil)) pe_int) pa_nil))) (pa_cons (pv 3) pa_nil))))))
      (pss_one (ps_ret (pv 2))))), ?_⟩
    refine ⟨Nat.zero_le _, fun p np => ?_⟩
    have s0 := Same.laid (o := .lst []) np
    have lv : (vi ns).length = ns.length := by
      unfold vi
      rw [List.length_map]
    have npb := new_ne g np
    refine ⟨.ref l, rfl, l, rfl, ⟨_, SqL.of (s0 _ _ hl.to)⟩, for_list (xs := vi ns) (fun i σ H1 => ∃ (y : Option V) (ms : List Int), σ = [some (.ref b), some (.ref l), some (.ref p), y] ∧ Draw b c cells H H1 ∧ Held b H1 p (.lst (vi ms)) ∧ ms.Perm (ns.take i)) ⟨none, [], rfl, Draw.of g s0, Held.of npb upd_same, List.Perm.refl _⟩ ?_ ?_ ?_⟩
    · rintro i σ H1 _ ⟨y, ms, rfl, d, hp, pm⟩
      exact SqL.of (Held.keep d hl).to
    · rintro i x σ H1 hx ⟨y, ms, rfl, d, hp, pm⟩
      have hi : i < ns.length := by
        rw [← lv]
        exact (List.getElem?_eq_some_iff.mp hx).1
      rw [vi_at hi] at hx
      cases hx
      have lm : ms.length ≤ i := by
        rw [pm.length_eq, List.length_take]
        omega
      have lvm : (vi ms).length = ms.length := by
        unfold vi
        rw [List.length_map]
      refine ⟨.ref p, rfl, .inl ⟨rfl, _, SqL.of hp.to⟩, .ref b, rfl, .ref p, rfl, p, _, rfl, .inl (SqL.of hp.to), (vi ms).length, 1, rfl, rfl, b, c, cells, _, rfl, by omega, by omega, d.g, fun r H2 r0 r1 d2 => ?_⟩
      have hp2 := Held.keep d2 hp
      refine ⟨.int ns[i], rfl, p, vi ms, r, .int ns[i], rfl, rfl, hp2.to, by rw [lvm, sizeLine_eq]; omega, r0, by omega, ?_⟩
      have ev : (vi ms).take r.toNat ++ [V.int ns[i]] ++ (vi ms).drop r.toNat = vi (ms.take r.toNat ++ [ns[i]] ++ ms.drop r.toNat) := by
        unfold vi
        rw [List.map_append, List.map_append, List.map_take, List.map_drop]
        rfl
      rw [ev]
      have d3 : Draw b c cells H2 (upd H2 p (.lst (vi (ms.take r.toNat ++ [ns[i]] ++ ms.drop r.toNat)))) → True := fun _ => trivial
      refine ⟨_, ms.take r.toNat ++ [ns[i]] ++ ms.drop r.toNat, rfl, ⟨fun a u e => ?_, ?_⟩, Held.of npb upd_same, ?_⟩
      · have nap : a ≠ p := by
          intro z
          rw [z, but_ne npb, np] at e
          cases e
        have := d2.s _ _ (d.s _ _ e)
        rw [but_upd_ne npb, upd_ne nap]
        exact this
      · obtain ⟨⟨x0, x1, x2, e1⟩, e2⟩ := d2.g
        refine ⟨⟨x0, x1, x2, ?_⟩, ?_⟩
        · rw [upd_ne (Ne.symm npb)]
          exact e1
        · have ncp : c ≠ p := by
            intro z
            have g2 := g.2
            rw [z, np] at g2
            cases g2
          rw [upd_ne ncp]
          exact e2
      · rw [List.take_succ, List.getElem?_eq_getElem hi, List.append_assoc]
        refine List.perm_middle.trans ?_
        show (ns[i] :: (ms.take r.toNat ++ ms.drop r.toNat)).Perm _
        rw [List.take_append_drop]
        exact (pm.cons _).trans (List.perm_append_singleton _ _).symm
    · rintro σ H1 ⟨y, ms, rfl, d, hp, pm⟩
      rw [List.take_of_length_le (by rw [lv]; exact Nat.le_refl _)] at pm
      exact ⟨.ref p, rfl, q p ms H1 pm d np hp⟩

/-! a call -/
def kinds : List V := [.str "all", .str "up", .str "up", .str "swap", .str "wheel", .str "about", .str "front", .str "halve", .str "pair", .str "others", .str "fill"]
def sp_l_call : Sp := fun vs H Q _ => ∃ (b c kl : Addr) (cells : List Int) (files : Nat) (most : Int), vs = [.ref b, .int files, .ref kl, .int most] ∧ Held b H kl (.lst kinds) ∧ 2 ≤ files ∧ files < 10 ∧ 0 < most ∧ most < 2 ^ 200 ∧ Bag H b c cells ∧
  ∀ cal H' p, Valid files cal → Draw b c cells H H' → Held b H' p (.tup (cv cal)) → Q (.ref p) H'
theorem ok_l_call (T : Txt K mg) : FnOk P w K mg base CX0 3 T.f_l_call T.d_l_call ps_l_call sp_l_call := by
  refine T.F_l_call.ok sc_l_call (fun vs H Q E h => ?_) (fun cdv A outer s H vs Q E hr h => ?_)
  · obtain ⟨b, c, kl, cells, files, most, rfl, _⟩ := h
    rfl
  · obtain ⟨b, c, kl, cells, files, most, rfl, hk, f0, f1, m0, m1, g, q⟩ := h
    refine ⟨_, (pss_cons (ps_par (i := 4) (j := 5) rfl sc_l_call.nd rfl rfl (by decide) rfl rfl (pa_cons (pe_call (ok_l_one T) hr (by rfl) T.g_l_one T.F_l_one.kp T.b_l_one .nil pass0 (pa_cons (pv 0) (pa_cons (pv 2) pa_nil))) (pa_cons (pe_slice sl_list (pe_call (ok_l_mixed T) hr (by rfl) T.g_l_mixed T.F_l_mixed.kp T.b_l_mixed .nil pass0 (pa_cons (pv 0) (pa_cons (pe_listRg rfl (by rfl) T.n_list (prg_1 (by rfl) T.n_range (pv 1))) pa_nil))) po_none (po_some pe_int)) pa_nil)) (by rfl))
      (pss_cons (ps_set (i := 6) sc_l_call.nd rfl (.inl rfl) (pe_op op_mul (pe_op op_add pe_int (pe_call (ok_l_take T) (hr.mono (by decide)) (by rfl) T.g_l_take T.F_l_take.kp T.b_l_take .nil pass0 (pa_cons (pv 0) (pa_cons (pv 3) pa_nil)))) (pe_op op_sub pe_int (pe_op op_mul pe_int (pe_call (ok_l_take T) (hr.mono (by decide)) (by rfl) T.g_l_take T.F_l_take.kp T.b_l_take .nil pass0 (pa_cons (pv 0) (pa_cons pe_int pa_nil)))))))
      (pss_cons (ps_if (pt_cmpR op_eq (pv 4) pe_str (nomark _)) (pss_one (ps_ret (pe_tup (pa_cons (pv 4) (pa_cons (pv 6) pa_nil))))) pss_nil)
      (pss_cons (ps_if (pt_cmpR op_eq (pv 4) pe_str (nomark _)) (pss_one (ps_ret (pe_tup (pa_cons (pv 4) (pa_cons (pe_ix ix_list (pv 5) pe_int (fun _ _ => rfl)) (pa_cons (pv 6) pa_nil)))))) pss_nil)
      (pss_cons (ps_if (pt_cmpR op_in_seq (pv 4) (pe_tup (pa_cons pe_str (pa_cons pe_str pa_nil))) (by rfl)) (pss_one (ps_ret (pe_tup (pa_cons (pv 4) (pa_cons (pe_ix ix_list (pv 5) pe_int (fun _ _ => rfl)) (pa_cons (pe_ix ix_list (pv 5) pe_int (fun _ _ => rfl)) pa_nil)))))) pss_nil)
      (pss_cons (ps_if (pt_cmpR op_eq (pv 4) pe_str (nomark _)) (pss_one (ps_ret (pe_tup (pa_cons (pv 4) (pa_cons (pe_ix ix_list (pv 5) pe_int (fun _ _ => rfl)) (pa_cons (pe_ix ix_list (pv 5) pe_int (fun _ _ => rfl)) (pa_cons (pv 6) pa_nil))))))) pss_nil)
      (pss_one (ps_ret (pe_tup (pa_cons (pv 4) pa_nil)))))))))), ?_⟩
    refine ⟨.ref b, rfl, .ref kl, rfl, b, c, kl, cells, kinds, rfl, hk, by decide, by decide, g, fun word H1 hw d1 => ?_⟩
    refine ⟨.ref b, rfl, .int files, rfl, files, rfl, RgOk.of_le (by omega) (by omega) (by omega) (by omega), fun rl nrl => ?_⟩
    rw [rgV_iota]
    have nrb := new_ne d1.g nrl
    have d2 := d1.trans (Draw.of d1.g (Same.laid (o := .lst (vi (iota files))) nrl))
    refine ⟨b, c, rl, cells, iota files, rfl, Held.of nrb upd_same, by rw [iota_len]; omega, d2.g, fun ml ms H2 pm d3 _ hm => ?_⟩
    have d4 := d2.trans d3
    obtain ⟨f, g2, hf, hg, hfg, hcut⟩ : ∃ f g2 : Nat, f < files ∧ g2 < files ∧ f ≠ g2 ∧ cutV (vi ms) none (some 2) = [.int f, .int g2] := by
      have lm : ms.length = files := by rw [pm.length_eq, iota_len]
      have nd : ms.Nodup := pm.nodup_iff.mpr (iota_nodup files)
      have mm : ∀ x ∈ ms, 0 ≤ x ∧ x < files := fun x hx => iota_mem.mp (pm.mem_iff.mp hx)
      cases ms with
      | nil =>
        rw [List.length_nil] at lm
        omega
      | cons x ms =>
        cases ms with
        | nil =>
          rw [List.length_singleton] at lm
          omega
        | cons y ms =>
          obtain ⟨x0, x1⟩ := mm x (by simp)
          obtain ⟨y0, y1⟩ := mm y (by simp)
          have nxy : x ≠ y := by
            rw [List.nodup_cons] at nd
            exact fun z => nd.1 (by rw [z]; simp)
          refine ⟨x.toNat, y.toNat, by omega, by omega, by omega, ?_⟩
          have e1 : ((x.toNat : Nat) : Int) = x := by omega
          have e2 : ((y.toNat : Nat) : Int) = y := by omega
          rw [e1, e2]
          have h1 : HT.sIx (vi (x :: y :: ms)).length 0 none = 0 := rfl
          have h2 : HT.sIx (vi (x :: y :: ms)).length (vi (x :: y :: ms)).length (some 2) = 2 := by
            unfold HT.sIx vi
            simp
          unfold cutV
          rw [h1, h2]
          rfl
    refine ⟨2, rfl, ml, vi ms, rfl, SqL.of hm.to, fun pl npl => ?_⟩
    rw [hcut]
    have npb := new_ne d4.g npl
    have d5 := d4.trans (Draw.of d4.g (Same.laid (o := .lst [V.int f, V.int g2]) npl))
    have hp5 : Held b (upd H2 pl (.lst [V.int f, V.int g2])) pl (.lst [V.int f, V.int g2]) := Held.of npb upd_same
    refine ⟨word, .ref pl, rfl, ?_⟩
    refine ⟨.ref b, rfl, .int most, rfl, b, c, cells, most, rfl, m0, m1, d5.g, fun r1 H3 _ _ d6 => ?_⟩
    refine ⟨1, r1, rfl, rfl, .ref b, rfl, b, c, cells, 2, rfl, by decide, by decide, d6.g, fun r2 H3 r20 r21 d7 => ?_⟩
    refine ⟨2, r2, rfl, rfl, .inl ⟨by decide, by decide⟩, 1, _, rfl, rfl, _, _, rfl, rfl, .inr ⟨by omega, by omega⟩, ?_⟩
    have d := (d5.trans d6).trans d7
    have hp := Held.keep d7 (Held.keep d6 hp5)
    clear d7 d6 hp5 d5 d4 d3 d2
    obtain ⟨k, hk2⟩ : ∃ k, k = (1 + r1) * (1 - 2 * r2) := ⟨_, rfl⟩
    have hk3 : (fun i j : Int => V.int (i * j)) (1 + r1) (1 - 2 * r2) = V.int k := congrArg V.int hk2.symm
    have hw' : word ∈ kinds := hw
    clear hw
    unfold kinds at hw'
    simp only [List.mem_cons, List.not_mem_nil, or_false] at hw'
    rcases hw' with rfl | rfl | rfl | rfl | rfl | rfl | rfl | rfl | rfl | rfl | rfl
    · -- all
      refine ⟨.str "all", rfl, rfl, _, rfl, iteD_yes (by decide +kernel) ?_⟩
      refine ⟨.str "all", rfl, _, rfl, by show 2 ≤ sizeLine; decide, fun p np => q (.all k) _ p trivial ?_ ?_⟩
      · exact d.trans (Draw.of d.g (Same.laid np))
      · exact Held.of (new_ne d.g np) (by first | exact upd_same | (rw [upd_same, hk2]; rfl))
    · -- up
      refine ⟨.str "up", rfl, rfl, _, rfl, iteD_no (by decide +kernel) ?_⟩
      refine ⟨.str "up", rfl, rfl, _, rfl, iteD_yes (by decide +kernel) ?_⟩
      refine ⟨.str "up", rfl, .ref pl, rfl, pl, _, 0, .int f, rfl, rfl, SqL.of hp.to, atI_nat (j := 0) rfl, _, rfl, by show 3 ≤ sizeLine; decide, fun p np => q (.up f k) _ p hf ?_ ?_⟩
      · exact d.trans (Draw.of d.g (Same.laid np))
      · exact Held.of (new_ne d.g np) (by first | exact upd_same | (rw [upd_same, hk2]; rfl))
    · -- up
      refine ⟨.str "up", rfl, rfl, _, rfl, iteD_no (by decide +kernel) ?_⟩
      refine ⟨.str "up", rfl, rfl, _, rfl, iteD_yes (by decide +kernel) ?_⟩
      refine ⟨.str "up", rfl, .ref pl, rfl, pl, _, 0, .int f, rfl, rfl, SqL.of hp.to, atI_nat (j := 0) rfl, _, rfl, by show 3 ≤ sizeLine; decide, fun p np => q (.up f k) _ p hf ?_ ?_⟩
      · exact d.trans (Draw.of d.g (Same.laid np))
      · exact Held.of (new_ne d.g np) (by first | exact upd_same | (rw [upd_same, hk2]; rfl))
    · -- swap
      refine ⟨.str "swap", rfl, rfl, _, rfl, iteD_no (by decide +kernel) ?_⟩
      refine ⟨.str "swap", rfl, rfl, _, rfl, iteD_no (by decide +kernel) ?_⟩
      refine ⟨.str "swap", rfl, by show 2 ≤ sizeLine; decide, fun o no => ⟨o, _, rfl, .inr (SqT.of upd_same), rfl, rfl, _, rfl, iteB_yes (by decide +kernel) ?_⟩⟩
      have d := d.trans (Draw.of d.g (Same.laid (o := .tup [.str "swap", .str "front"]) no))
      have hp : Held b (upd H3 o (.tup [.str "swap", .str "front"])) pl _ := Same.but (Same.laid no) _ _ hp
      refine ⟨.str "swap", rfl, .ref pl, rfl, pl, _, 0, .int f, rfl, rfl, SqL.of hp.to, atI_nat (j := 0) rfl, .ref pl, rfl, pl, _, 1, .int g2, rfl, rfl, SqL.of hp.to, atI_nat (j := 1) rfl, by show 3 ≤ sizeLine; decide, fun p np => q (.swap f g2) _ p ⟨hf, hg, hfg⟩ ?_ ?_⟩
      · exact d.trans (Draw.of d.g (Same.laid np))
      · exact Held.of (new_ne d.g np) (by first | exact upd_same | (rw [upd_same, hk2]; rfl))
    · -- wheel
      refine ⟨.str "wheel", rfl, rfl, _, rfl, iteD_no (by decide +kernel) ?_⟩
      refine ⟨.str "wheel", rfl, rfl, _, rfl, iteD_no (by decide +kernel) ?_⟩
      refine ⟨.str "wheel", rfl, by show 2 ≤ sizeLine; decide, fun o no => ⟨o, _, rfl, .inr (SqT.of upd_same), rfl, rfl, _, rfl, iteB_no (by decide +kernel) ?_⟩⟩
      have d := d.trans (Draw.of d.g (Same.laid (o := .tup [.str "swap", .str "front"]) no))
      have hp : Held b (upd H3 o (.tup [.str "swap", .str "front"])) pl _ := Same.but (Same.laid no) _ _ hp
      refine ⟨.str "wheel", rfl, rfl, _, rfl, iteD_yes (by decide +kernel) ?_⟩
      refine ⟨.str "wheel", rfl, .ref pl, rfl, pl, _, 0, .int f, rfl, rfl, SqL.of hp.to, atI_nat (j := 0) rfl, .ref pl, rfl, pl, _, 1, .int g2, rfl, rfl, SqL.of hp.to, atI_nat (j := 1) rfl, _, rfl, by show 4 ≤ sizeLine; decide, fun p np => q (.wheel f g2 k) _ p ⟨hf, hg, hfg⟩ ?_ ?_⟩
      · exact d.trans (Draw.of d.g (Same.laid np))
      · exact Held.of (new_ne d.g np) (by first | exact upd_same | (rw [upd_same, hk2]; rfl))
    · -- about
      refine ⟨.str "about", rfl, rfl, _, rfl, iteD_no (by decide +kernel) ?_⟩
      refine ⟨.str "about", rfl, rfl, _, rfl, iteD_no (by decide +kernel) ?_⟩
      refine ⟨.str "about", rfl, by show 2 ≤ sizeLine; decide, fun o no => ⟨o, _, rfl, .inr (SqT.of upd_same), rfl, rfl, _, rfl, iteB_no (by decide +kernel) ?_⟩⟩
      have d := d.trans (Draw.of d.g (Same.laid (o := .tup [.str "swap", .str "front"]) no))
      have hp : Held b (upd H3 o (.tup [.str "swap", .str "front"])) pl _ := Same.but (Same.laid no) _ _ hp
      refine ⟨.str "about", rfl, rfl, _, rfl, iteD_no (by decide +kernel) ?_⟩
      refine ⟨.str "about", rfl, by show 1 ≤ sizeLine; decide, fun p np => q (.about) _ p trivial ?_ ?_⟩
      · exact d.trans (Draw.of d.g (Same.laid np))
      · exact Held.of (new_ne d.g np) (by first | exact upd_same | (rw [upd_same, hk2]; rfl))
    · -- front
      refine ⟨.str "front", rfl, rfl, _, rfl, iteD_no (by decide +kernel) ?_⟩
      refine ⟨.str "front", rfl, rfl, _, rfl, iteD_no (by decide +kernel) ?_⟩
      refine ⟨.str "front", rfl, by show 2 ≤ sizeLine; decide, fun o no => ⟨o, _, rfl, .inr (SqT.of upd_same), rfl, rfl, _, rfl, iteB_yes (by decide +kernel) ?_⟩⟩
      have d := d.trans (Draw.of d.g (Same.laid (o := .tup [.str "swap", .str "front"]) no))
      have hp : Held b (upd H3 o (.tup [.str "swap", .str "front"])) pl _ := Same.but (Same.laid no) _ _ hp
      refine ⟨.str "front", rfl, .ref pl, rfl, pl, _, 0, .int f, rfl, rfl, SqL.of hp.to, atI_nat (j := 0) rfl, .ref pl, rfl, pl, _, 1, .int g2, rfl, rfl, SqL.of hp.to, atI_nat (j := 1) rfl, by show 3 ≤ sizeLine; decide, fun p np => q (.front f g2) _ p ⟨hf, hg, hfg⟩ ?_ ?_⟩
      · exact d.trans (Draw.of d.g (Same.laid np))
      · exact Held.of (new_ne d.g np) (by first | exact upd_same | (rw [upd_same, hk2]; rfl))
    · -- halve
      refine ⟨.str "halve", rfl, rfl, _, rfl, iteD_no (by decide +kernel) ?_⟩
      refine ⟨.str "halve", rfl, rfl, _, rfl, iteD_no (by decide +kernel) ?_⟩
      refine ⟨.str "halve", rfl, by show 2 ≤ sizeLine; decide, fun o no => ⟨o, _, rfl, .inr (SqT.of upd_same), rfl, rfl, _, rfl, iteB_no (by decide +kernel) ?_⟩⟩
      have d := d.trans (Draw.of d.g (Same.laid (o := .tup [.str "swap", .str "front"]) no))
      have hp : Held b (upd H3 o (.tup [.str "swap", .str "front"])) pl _ := Same.but (Same.laid no) _ _ hp
      refine ⟨.str "halve", rfl, rfl, _, rfl, iteD_no (by decide +kernel) ?_⟩
      refine ⟨.str "halve", rfl, by show 1 ≤ sizeLine; decide, fun p np => q (.halve) _ p trivial ?_ ?_⟩
      · exact d.trans (Draw.of d.g (Same.laid np))
      · exact Held.of (new_ne d.g np) (by first | exact upd_same | (rw [upd_same, hk2]; rfl))
    · -- pair
      refine ⟨.str "pair", rfl, rfl, _, rfl, iteD_no (by decide +kernel) ?_⟩
      refine ⟨.str "pair", rfl, rfl, _, rfl, iteD_no (by decide +kernel) ?_⟩
      refine ⟨.str "pair", rfl, by show 2 ≤ sizeLine; decide, fun o no => ⟨o, _, rfl, .inr (SqT.of upd_same), rfl, rfl, _, rfl, iteB_no (by decide +kernel) ?_⟩⟩
      have d := d.trans (Draw.of d.g (Same.laid (o := .tup [.str "swap", .str "front"]) no))
      have hp : Held b (upd H3 o (.tup [.str "swap", .str "front"])) pl _ := Same.but (Same.laid no) _ _ hp
      refine ⟨.str "pair", rfl, rfl, _, rfl, iteD_no (by decide +kernel) ?_⟩
      refine ⟨.str "pair", rfl, by show 1 ≤ sizeLine; decide, fun p np => q (.pair) _ p trivial ?_ ?_⟩
      · exact d.trans (Draw.of d.g (Same.laid np))
      · exact Held.of (new_ne d.g np) (by first | exact upd_same | (rw [upd_same, hk2]; rfl))
    · -- others
      refine ⟨.str "others", rfl, rfl, _, rfl, iteD_no (by decide +kernel) ?_⟩
      refine ⟨.str "others", rfl, rfl, _, rfl, iteD_no (by decide +kernel) ?_⟩
      refine ⟨.str "others", rfl, by show 2 ≤ sizeLine; decide, fun o no => ⟨o, _, rfl, .inr (SqT.of upd_same), rfl, rfl, _, rfl, iteB_no (by decide +kernel) ?_⟩⟩
      have d := d.trans (Draw.of d.g (Same.laid (o := .tup [.str "swap", .str "front"]) no))
      have hp : Held b (upd H3 o (.tup [.str "swap", .str "front"])) pl _ := Same.but (Same.laid no) _ _ hp
      refine ⟨.str "others", rfl, rfl, _, rfl, iteD_no (by decide +kernel) ?_⟩
      refine ⟨.str "others", rfl, by show 1 ≤ sizeLine; decide, fun p np => q (.others) _ p trivial ?_ ?_⟩
      · exact d.trans (Draw.of d.g (Same.laid np))
      · exact Held.of (new_ne d.g np) (by first | exact upd_same | (rw [upd_same, hk2]; rfl))
    · -- fill
      refine ⟨.str "fill", rfl, rfl, _, rfl, iteD_no (by decide +kernel) ?_⟩
      refine ⟨.str "fill", rfl, rfl, _, rfl, iteD_no (by decide +kernel) ?_⟩
      refine ⟨.str "fill", rfl, by show 2 ≤ sizeLine; decide, fun o no => ⟨o, _, rfl, .inr (SqT.of upd_same), rfl, rfl, _, rfl, iteB_no (by decide +kernel) ?_⟩⟩
      have d := d.trans (Draw.of d.g (Same.laid (o := .tup [.str "swap", .str "front"]) no))
      have hp : Held b (upd H3 o (.tup [.str "swap", .str "front"])) pl _ := Same.but (Same.laid no) _ _ hp
      refine ⟨.str "fill", rfl, rfl, _, rfl, iteD_no (by decide +kernel) ?_⟩
      refine ⟨.str "fill", rfl, by show 1 ≤ sizeLine; decide, fun p np => q (.fill) _ p trivial ?_ ?_⟩
      · exact d.trans (Draw.of d.g (Same.laid np))
      · exact Held.of (new_ne d.g np) (by first | exact upd_same | (rw [upd_same, hk2]; rfl))
end
end Pup

set_option Elab.async false
set_option linter.all false
set_option maxRecDepth 100000
set_option maxHeartbeats 4000000
namespace Pup
open PySem PySem.Spec PyProof.Rows L2
section
variable {P : Program} {w : World} {K : PySem.W.Frag} {mg : Str → Option Value} {base : Heap}

def wordOf : Cal → Str
  | .all _ => "all"
  | .up _ _ => "up"
  | .swap _ _ => "swap"
  | .wheel _ _ _ => "wheel"
  | .about => "about"
  | .front _ _ => "front"
  | .halve => "halve"
  | .pair => "pair"
  | .others => "others"
  | .fill => "fill"

/-! open -/
def sp_l_open : Sp := fun vs H Q _ => ∃ (p : Addr) (c : Cal) (files rows row file : Int), vs = [.str (wordOf c), .int files, .int rows, .ref p] ∧ opens c ∧ H p = some (.tup [.int row, .int file]) ∧
  0 < rows ∧ rows < 1000 ∧ 0 < files ∧ files < 1000 ∧ Ans H Q (lmoved c files rows row file)
theorem ok_l_open (T : Txt K mg) : FnOk P w K mg base CX0 1 T.f_l_open T.d_l_open ps_l_open sp_l_open := by
  refine T.F_l_open.ok sc_l_open (fun vs H Q E h => ?_) (fun cdv A outer s H vs Q E hr h => ?_)
  · obtain ⟨p, c, files, rows, row, file, rfl, _⟩ := h
    rfl
  · obtain ⟨p, c, files, rows, row, file, rfl, hc, hp, r0, r1, f0, f1, q⟩ := h
    refine ⟨_, (pss_cons (ps_par (i := 4) (j := 5) rfl sc_l_open.nd rfl rfl (by decide) rfl rfl (pa_cons (pe_op op_add (pe_op op_mul (pe_ix ix_tup (pv 3) pe_int (fun _ _ => rfl)) (pv 1)) (pe_ix ix_tup (pv 3) pe_int (fun _ _ => rfl))) (pa_cons (pe_op op_sub (pv 2) (pe_op op_fdivN (pv 2) pe_int)) pa_nil)) (by rfl))
      (pss_cons (ps_if (pt_cmpR op_eq (pv 0) pe_str (nomark _)) (pss_one (ps_ret (pe_tup (pa_cons (pe_op op_sub (pv 4) (pe_op op_mul (pv 2) (pe_op op_fdivN (pv 4) (pv 2)))) (pa_cons (pe_op op_fdivN (pv 4) (pv 2)) pa_nil))))) pss_nil)
      (pss_cons (ps_if (pt_cmpR op_eq (pv 0) pe_str (nomark _)) (pss_cons (ps_set (i := 6) sc_l_open.nd rfl (.inl rfl) (pe_op op_add (pe_op op_mul (pe_ix ix_tup (pv 3) pe_int (fun _ _ => rfl)) (pv 2)) (pe_ix ix_tup (pv 3) pe_int (fun _ _ => rfl))))
      (pss_one (ps_ret (pe_tup (pa_cons (pe_op op_fdivN (pv 6) (pv 1)) (pa_cons (pe_op op_sub (pv 6) (pe_op op_mul (pv 1) (pe_op op_fdivN (pv 6) (pv 1)))) pa_nil)))))) pss_nil)
      (pss_cons (ps_set (i := 7) sc_l_open.nd rfl (.inl rfl) (pe_op op_sub (pe_ix ix_tup (pv 3) pe_int (fun _ _ => rfl)) (pe_op op_mul pe_int (pe_op op_fdivN (pe_ix ix_tup (pv 3) pe_int (fun _ _ => rfl)) pe_int))))
      (pss_cons (ps_if (pt_cmpR op_eq (pv 0) pe_str (nomark _)) (pss_one (ps_ret (pe_tup (pa_cons (pe_op op_add (pe_op op_fdivN (pe_ix ix_tup (pv 3) pe_int (fun _ _ => rfl)) pe_int) (pe_op op_mul (pv 5) (pv 7))) (pa_cons (pe_ix ix_tup (pv 3) pe_int (fun _ _ => rfl)) pa_nil))))) pss_nil)
      (pss_cons (ps_set (i := 8) sc_l_open.nd rfl (.inl rfl) (pe_callTy call_int1 (by rfl) T.n_int (by decide +kernel) (pa_cons (pe_cmpR op_ge (pe_ix ix_tup (pv 3) pe_int (fun _ _ => rfl)) (pv 5) (nomark _)) pa_nil)))
      (pss_one (ps_ret (pe_tup (pa_cons (pe_op op_add (pe_op op_mul pe_int (pe_op op_sub (pe_ix ix_tup (pv 3) pe_int (fun _ _ => rfl)) (pe_op op_mul (pv 5) (pv 8)))) (pv 8)) (pa_cons (pe_ix ix_tup (pv 3) pe_int (fun _ _ => rfl)) pa_nil))))))))))), ?_⟩
    have two : (2 : Nat) ≤ sizeLine := by decide
    have hd2 : CDivN 0 2 := ⟨by decide, by decide⟩
    have hf := fdiv_pos (a := rows) (b := 2) (by decide)
    refine ⟨.ref p, rfl, p, _, 0, .int row, rfl, rfl, SqT.of hp, atI_nat (j := 0) rfl, .int files, rfl, row, files, rfl, rfl, .inr ⟨by omega, by omega⟩, .ref p, rfl, p, _, 1, .int file, rfl, rfl, SqT.of hp, atI_nat (j := 1) rfl, _, file, rfl, rfl, .int rows, rfl, .int rows, rfl, rows, 2, rfl, rfl, hd2, rows, _, rfl, rfl, _, _, rfl, ?_⟩
    have bh : -(2 ^ 64) < rows - rows.fdiv 2 ∧ rows - rows.fdiv 2 < 2 ^ 64 := by omega
    rcases hc with rfl | rfl | rfl | rfl
    · refine ⟨.str "halve", rfl, rfl, _, rfl, iteD_yes (by decide +kernel) ?_⟩
      refine ⟨_, rfl, .int rows, rfl, _, rfl, .int rows, rfl, _, rows, rfl, rfl, ⟨by omega, by omega⟩, rows, _, rfl, rfl, .inl ⟨by omega, by omega⟩, _, _, rfl, rfl, _, rfl, .int rows, rfl, _, rows, rfl, rfl, ⟨by omega, by omega⟩, two, ?_⟩
      exact q.new (Same.refl _) rfl
    · refine ⟨.str "pair", rfl, rfl, _, rfl, iteD_no (by decide +kernel) ?_⟩
      refine ⟨.str "pair", rfl, rfl, _, rfl, iteD_yes (by decide +kernel) ?_⟩
      refine ⟨.ref p, rfl, p, _, 1, .int file, rfl, rfl, SqT.of hp, atI_nat (j := 1) rfl, .int rows, rfl, file, rows, rfl, rfl, .inr ⟨by omega, by omega⟩, .ref p, rfl, p, _, 0, .int row, rfl, rfl, SqT.of hp, atI_nat (j := 0) rfl, _, row, rfl, rfl, ?_⟩
      refine ⟨_, rfl, .int files, rfl, _, files, rfl, rfl, ⟨by omega, by omega⟩, _, rfl, .int files, rfl, _, rfl, .int files, rfl, _, files, rfl, rfl, ⟨by omega, by omega⟩, files, _, rfl, rfl, .inl ⟨by omega, by omega⟩, _, _, rfl, rfl, two, ?_⟩
      exact q.new (Same.refl _) rfl
    · refine ⟨.str "others", rfl, rfl, _, rfl, iteD_no (by decide +kernel) ?_⟩
      refine ⟨.str "others", rfl, rfl, _, rfl, iteD_no (by decide +kernel) ?_⟩
      refine ⟨.ref p, rfl, p, _, 0, .int row, rfl, rfl, SqT.of hp, atI_nat (j := 0) rfl, .ref p, rfl, p, _, 0, .int row, rfl, rfl, SqT.of hp, atI_nat (j := 0) rfl, row, 2, rfl, rfl, hd2, 2, _, rfl, rfl, .inl ⟨by decide, by decide⟩, row, _, rfl, rfl, ?_⟩
      refine ⟨.str "others", rfl, rfl, _, rfl, iteD_yes (by decide +kernel) ?_⟩
      refine ⟨.ref p, rfl, p, _, 0, .int row, rfl, rfl, SqT.of hp, atI_nat (j := 0) rfl, row, 2, rfl, rfl, hd2, _, rfl, _, rfl, _, _, rfl, rfl, .inl bh, _, _, rfl, rfl, .ref p, rfl, p, _, 1, .int file, rfl, rfl, SqT.of hp, atI_nat (j := 1) rfl, two, ?_⟩
      exact q.new (Same.refl _) rfl
    · refine ⟨.str "fill", rfl, rfl, _, rfl, iteD_no (by decide +kernel) ?_⟩
      refine ⟨.str "fill", rfl, rfl, _, rfl, iteD_no (by decide +kernel) ?_⟩
      refine ⟨.ref p, rfl, p, _, 0, .int row, rfl, rfl, SqT.of hp, atI_nat (j := 0) rfl, .ref p, rfl, p, _, 0, .int row, rfl, rfl, SqT.of hp, atI_nat (j := 0) rfl, row, 2, rfl, rfl, hd2, 2, _, rfl, rfl, .inl ⟨by decide, by decide⟩, row, _, rfl, rfl, ?_⟩
      refine ⟨.str "fill", rfl, rfl, _, rfl, iteD_no (by decide +kernel) ?_⟩
      refine ⟨.ref p, rfl, p, _, 0, .int row, rfl, rfl, SqT.of hp, atI_nat (j := 0) rfl, _, rfl, row, _, rfl, rfl, .inr ⟨_, rfl, ?_⟩⟩
      refine ⟨.ref p, rfl, p, _, 0, .int row, rfl, rfl, SqT.of hp, atI_nat (j := 0) rfl, _, rfl, _, rfl, _, _, rfl, rfl, .inl bh, row, _, rfl, rfl, 2, _, rfl, rfl, .inl ⟨by decide, by decide⟩, _, rfl, _, _, rfl, rfl, .ref p, rfl, p, _, 1, .int file, rfl, rfl, SqT.of hp, atI_nat (j := 1) rfl, two, ?_⟩
      exact q.new (Same.refl _) (by simp only [lmoved, decide_eq_true_eq])
end
end Pup

set_option Elab.async false
set_option linter.all false
set_option maxRecDepth 100000
set_option maxHeartbeats 4000000
namespace Pup
open PySem PySem.Spec PyProof.Rows L2
section
variable {P : Program} {w : World} {K : PySem.W.Frag} {mg : Str → Option Value} {base : Heap}

/-! goes -/
def sp_l_goes : Sp := fun vs H Q _ => ∃ (t p : Addr) (c : Cal) (files rows : Nat) (row file : Int), vs = [.ref t, .int files, .int rows, .ref p] ∧ H t = some (.tup (cv c)) ∧ H p = some (.tup [.int row, .int file]) ∧
  0 < rows ∧ rows < 1000 ∧ 0 < files ∧ files < 1000 ∧ Ans H Q (lmoved c files rows row file)
theorem ok_l_goes (T : Txt K mg) : FnOk P w K mg base CX0 2 T.f_l_goes T.d_l_goes ps_l_goes sp_l_goes := by
  refine T.F_l_goes.ok sc_l_goes (fun vs H Q E h => ?_) (fun cdv A outer s H vs Q E hr h => ?_)
  · obtain ⟨t, p, c, files, rows, row, file, rfl, _⟩ := h
    rfl
  · obtain ⟨t, p, c, files, rows, row, file, rfl, ht, hp, r0', r1', f0', f1', q⟩ := h
    refine ⟨_, (pss_cons (L2.ps_par3 (i := 4) (j := 5) (l := 6) rfl sc_l_goes.nd rfl rfl rfl (by decide) (by decide) (by decide) rfl rfl rfl (pa_cons (pe_ix ix_tup (pv 0) pe_int (fun _ _ => rfl)) (pa_cons (pe_ix ix_tup (pv 3) pe_int (fun _ _ => rfl)) (pa_cons (pe_ix ix_tup (pv 3) pe_int (fun _ _ => rfl)) pa_nil))) (by rfl))
      (pss_cons (ps_if (PW.pt (pw_or (pt_cmpR op_eq (pv 4) pe_str (nomark _)) (pw_or1 (PW.pt (pw_and (pt_cmpR op_eq (pv 4) pe_str (nomark _)) (pw_and1 (pt_cmpR op_eq (pv 6) (pe_ix ix_tup (pv 0) pe_int (fun _ _ => rfl)) (nomark _)))))))) (pss_one (ps_ret (pe_tup (pa_cons (pe_op op_modN (pe_callTy call_int1 (by rfl) T.n_int (by decide +kernel) (pa_cons (pe_op op_sub (pv 5) (pe_ix ix_tup (pv 0) (pe_un un_neg pe_int) (fun _ _ => rfl))) pa_nil)) (pv 2)) (pa_cons (pv 6) pa_nil))))) pss_nil)
      (pss_cons (ps_if (pt_cmpR op_eq (pv 4) pe_str (nomark _)) (pss_one (ps_ret (pe_tup (pa_cons (pe_op op_sub (pe_op op_sub (pv 2) pe_int) (pv 5)) (pa_cons (pe_op op_sub (pe_op op_sub (pv 1) pe_int) (pv 6)) pa_nil))))) pss_nil)
      (pss_cons (ps_if (PW.pt (pw_and (pt_cmpR op_in_seq (pv 4) (pe_tup (pa_cons pe_str (pa_cons pe_str pa_nil))) (by rfl)) (pw_and (pt_cmpR op_in_seq (pv 6) (pe_slice sl_tup (pv 0) (po_some pe_int) po_none) (by rfl)) (pw_and1 (PW.pt (pw_or (pt_cmpR op_eq (pv 4) pe_str (nomark _)) (pw_or1 (pt_cmpR op_eq (pv 5) pe_int (nomark _))))))))) (pss_one (ps_ret (pe_tup (pa_cons (pv 5) (pa_cons (pe_op op_sub (pe_op op_add (pe_ix ix_tup (pv 0) pe_int (fun _ _ => rfl)) (pe_ix ix_tup (pv 0) pe_int (fun _ _ => rfl))) (pv 6)) pa_nil))))) pss_nil)
      (pss_cons (ps_if (PW.pt (pw_and (pt_cmpR op_eq (pv 4) pe_str (nomark _)) (pw_and1 (pt_cmpR op_in_seq (pv 6) (pe_slice sl_tup (pv 0) (po_some pe_int) (po_some pe_int)) (by rfl))))) (pss_cons (ps_set (i := 7) sc_l_goes.nd rfl (.inl rfl) (pe_op op_modN (pe_callTy call_int1 (by rfl) T.n_int (by decide +kernel) (pa_cons (pe_op op_add (pe_ifExp (pt_cmpR op_eq (pv 6) (pe_ix ix_tup (pv 0) pe_int (fun _ _ => rfl)) (nomark _)) (pe_op op_add (pv 2) (pv 5)) (pe_op op_sub (pe_op op_sub (pv 2) pe_int) (pv 5))) (pe_ix ix_tup (pv 0) pe_int (fun _ _ => rfl))) pa_nil)) (pe_op op_mul pe_int (pv 2))))
      (pss_one (ps_ret (pe_ifExp (pt_cmpR op_ge (pv 7) (pv 2) (nomark _)) (pe_tup (pa_cons (pe_op op_sub (pv 7) (pv 2)) (pa_cons (pe_ix ix_tup (pv 0) pe_int (fun _ _ => rfl)) pa_nil))) (pe_tup (pa_cons (pe_op op_sub (pe_op op_sub (pv 2) pe_int) (pv 7)) (pa_cons (pe_ix ix_tup (pv 0) pe_int (fun _ _ => rfl)) pa_nil))))))) pss_nil)
      (pss_cons (ps_if (pt_cmpR op_in_seq (pv 4) (pe_tup (pa_cons pe_str (pa_cons pe_str (pa_cons pe_str (pa_cons pe_str pa_nil))))) (by rfl)) (pss_one (ps_ret (pe_call (ok_l_open T) hr (by rfl) T.g_l_open T.F_l_open.kp T.b_l_open .nil pass0 (pa_cons (pv 4) (pa_cons (pv 1) (pa_cons (pv 2) (pa_cons (pv 3) pa_nil))))))) pss_nil)
      (pss_one (ps_ret (pv 3))))))))), ?_⟩
    have two : (2 : Nat) ≤ sizeLine := by decide
    obtain ⟨r0, r1, f0, f1⟩ : (0 : Int) < rows ∧ (rows : Int) < 1000 ∧ (0 : Int) < files ∧ (files : Int) < 1000 := by omega
    have here : ∀ H1, L2.Same H H1 → lmoved c files rows row file = (row, file) → Q (.ref p) H1 := fun H1 sm e => q H1 p sm (by rw [e]; exact sm _ _ hp)
    refine ⟨.ref t, rfl, t, _, 0, .str (wordOf c), rfl, rfl, SqT.of ht, atI_nat (j := 0) (by cases c <;> rfl), .ref p, rfl, p, _, 0, .int row, rfl, rfl, SqT.of hp, atI_nat (j := 0) rfl, .ref p, rfl, p, _, 1, .int file, rfl, rfl, SqT.of hp, atI_nat (j := 1) rfl, _, _, _, rfl, ?_⟩
    cases c with
    | all k =>
      refine ⟨.str "all", rfl, rfl, _, rfl, iteD_yes (by decide +kernel) ?_⟩
      refine ⟨.int row, rfl, .ref t, rfl, 1, rfl, t, _, -1, .int k, rfl, rfl, SqT.of ht, rfl, row, k, rfl, rfl, .inl ⟨_, rfl, .int rows, rfl, _, rows, rfl, rfl, by omega, .int file, rfl, two, ?_⟩⟩
      exact q.new (Same.refl _) rfl
    | up f k =>
      refine ⟨.str "up", rfl, rfl, _, rfl, iteD_no (by decide +kernel) ?_⟩
      refine ⟨.str "up", rfl, rfl, _, rfl, iteD_yes (by decide +kernel) ?_⟩
      refine ⟨.int file, rfl, .ref t, rfl, t, _, 1, .int f, rfl, rfl, SqT.of ht, atI_nat (j := 1) rfl, rfl, _, rfl, ite2 (fun e => ?_) (fun e => ?_)⟩
      · have e' : file = f := V.int.inj (of_decide_eq_true e)
        refine ⟨.int row, rfl, .ref t, rfl, 1, rfl, t, _, -1, .int k, rfl, rfl, SqT.of ht, rfl, row, k, rfl, rfl, .inl ⟨_, rfl, .int rows, rfl, _, rows, rfl, rfl, by omega, .int file, rfl, two, ?_⟩⟩
        exact q.new (Same.refl _) (by simp only [lmoved, if_pos e'])
      · have e' : ¬ file = f := fun z => e (decide_eq_true (congrArg V.int z))
        refine ⟨.str "up", rfl, rfl, _, rfl, iteD_no (by decide +kernel) ?_⟩
        refine ⟨.str "up", rfl, by show 2 ≤ sizeLine; decide, fun o2 no2 => ⟨o2, _, rfl, .inr (SqT.of upd_same), rfl, rfl, _, rfl, iteB_no (by decide +kernel) ?_⟩⟩
        have s2 := Same.laid (o := .tup [V.str "swap", V.str "front"]) no2
        refine ⟨.str "up", rfl, rfl, _, rfl, iteD_no (by decide +kernel) ?_⟩
        refine ⟨.str "up", rfl, by show 4 ≤ sizeLine; decide, fun o4 no4 => ⟨o4, _, rfl, .inr (SqT.of upd_same), rfl, rfl, _, rfl, iteB_no (by decide +kernel) ?_⟩⟩
        have s4 := s2.trans (Same.laid (o := .tup [V.str "halve", V.str "pair", V.str "others", V.str "fill"]) no4)
        exact ⟨.ref p, rfl, here _ s4 (by simp only [lmoved, if_neg e'])⟩
    | about =>
      refine ⟨.str "about", rfl, rfl, _, rfl, iteD_no (by decide +kernel) ?_⟩
      refine ⟨.str "about", rfl, rfl, _, rfl, iteD_no (by decide +kernel) ?_⟩
      refine ⟨.str "about", rfl, rfl, _, rfl, iteD_yes (by decide +kernel) ?_⟩
      refine ⟨.int rows, rfl, rows, 1, rfl, rfl, .int row, rfl, _, row, rfl, rfl, .int files, rfl, files, 1, rfl, rfl, .int file, rfl, _, file, rfl, rfl, two, ?_⟩
      exact q.new (Same.refl _) rfl
    | swap f g =>
      refine ⟨.str "swap", rfl, rfl, _, rfl, iteD_no (by decide +kernel) ?_⟩
      refine ⟨.str "swap", rfl, rfl, _, rfl, iteD_no (by decide +kernel) ?_⟩
      refine ⟨.str "swap", rfl, rfl, _, rfl, iteD_no (by decide +kernel) ?_⟩
      refine ⟨.str "swap", rfl, by show 2 ≤ sizeLine; decide, fun o2 no2 => ⟨o2, _, rfl, .inr (SqT.of upd_same), rfl, rfl, _, rfl, iteB_yes (by decide +kernel) ?_⟩⟩
      have s2 := Same.laid (o := .tup [V.str "swap", V.str "front"]) no2
      have ht1 := s2 _ _ ht
      refine ⟨.int file, rfl, .ref t, rfl, 1, rfl, t, _, rfl, SqT.of ht1, (show ¬ (HT.sIx 3 0 (some 1) = 0 ∧ HT.sIx 3 3 none = 3) by decide), fun o3 no3 => ?_⟩
      have s3 := s2.trans (Same.laid (o := .tup [V.int f, V.int g]) no3)
      have ht3 := s3 _ _ ht
      have hp3 := s3 _ _ hp
      refine ⟨o3, [.int f, .int g], rfl, .inr (SqT.of upd_same), rfl, rfl, _, rfl, ?_⟩
      rw [inV2]
      by_cases hm : file = f ∨ file = g
      · rw [decide_eq_true hm]
        refine iteT ?_
        refine ⟨.str "swap", rfl, rfl, _, rfl, iteD_yes (by decide +kernel) ?_⟩
        refine ⟨.int row, rfl, .ref t, rfl, t, _, 1, .int f, rfl, rfl, SqT.of ht3, atI_nat (j := 1) rfl, .ref t, rfl, t, _, 2, .int g, rfl, rfl, SqT.of ht3, atI_nat (j := 2) rfl, f, g, rfl, rfl, .int file, rfl, _, file, rfl, rfl, two, ?_⟩
        exact q.new s3 (by simp only [lmoved, if_pos hm])
      · rw [decide_eq_false hm]
        refine iteF ?_
        refine ⟨.str "swap", rfl, rfl, _, rfl, iteD_no (by decide +kernel) ?_⟩
        refine ⟨.str "swap", rfl, by show 4 ≤ sizeLine; decide, fun o4 no4 => ⟨o4, _, rfl, .inr (SqT.of upd_same), rfl, rfl, _, rfl, iteB_no (by decide +kernel) ?_⟩⟩
        have s4 := s3.trans (Same.laid (o := .tup [V.str "halve", V.str "pair", V.str "others", V.str "fill"]) no4)
        exact ⟨.ref p, rfl, here _ s4 (by simp only [lmoved, if_neg hm])⟩
    | front f g =>
      refine ⟨.str "front", rfl, rfl, _, rfl, iteD_no (by decide +kernel) ?_⟩
      refine ⟨.str "front", rfl, rfl, _, rfl, iteD_no (by decide +kernel) ?_⟩
      refine ⟨.str "front", rfl, rfl, _, rfl, iteD_no (by decide +kernel) ?_⟩
      refine ⟨.str "front", rfl, by show 2 ≤ sizeLine; decide, fun o2 no2 => ⟨o2, _, rfl, .inr (SqT.of upd_same), rfl, rfl, _, rfl, iteB_yes (by decide +kernel) ?_⟩⟩
      have s2 := Same.laid (o := .tup [V.str "swap", V.str "front"]) no2
      have ht1 := s2 _ _ ht
      refine ⟨.int file, rfl, .ref t, rfl, 1, rfl, t, _, rfl, SqT.of ht1, (show ¬ (HT.sIx 3 0 (some 1) = 0 ∧ HT.sIx 3 3 none = 3) by decide), fun o3 no3 => ?_⟩
      have s3 := s2.trans (Same.laid (o := .tup [V.int f, V.int g]) no3)
      have ht3 := s3 _ _ ht
      have hp3 := s3 _ _ hp
      refine ⟨o3, [.int f, .int g], rfl, .inr (SqT.of upd_same), rfl, rfl, _, rfl, ?_⟩
      rw [inV2]
      by_cases hm : file = f ∨ file = g
      · rw [decide_eq_true hm]
        refine iteT ?_
        refine ⟨.str "front", rfl, rfl, _, rfl, iteD_no (by decide +kernel) ?_⟩
        refine ⟨.int row, rfl, rfl, _, rfl, ite2 (fun e => ?_) (fun e => ?_)⟩
        · have e' : row = 0 := V.int.inj (of_decide_eq_true e)
          refine ⟨.int row, rfl, .ref t, rfl, t, _, 1, .int f, rfl, rfl, SqT.of ht3, atI_nat (j := 1) rfl, .ref t, rfl, t, _, 2, .int g, rfl, rfl, SqT.of ht3, atI_nat (j := 2) rfl, f, g, rfl, rfl, .int file, rfl, _, file, rfl, rfl, two, ?_⟩
          exact q.new s3 (by simp only [lmoved, if_pos (show (file = f ∨ file = g) ∧ row = 0 from ⟨hm, e'⟩)])
        · have e' : ¬ row = 0 := fun z => e (decide_eq_true (congrArg V.int z))
          refine ⟨.str "front", rfl, rfl, _, rfl, iteD_no (by decide +kernel) ?_⟩
          refine ⟨.str "front", rfl, by show 4 ≤ sizeLine; decide, fun o4 no4 => ⟨o4, _, rfl, .inr (SqT.of upd_same), rfl, rfl, _, rfl, iteB_no (by decide +kernel) ?_⟩⟩
          have s4 := s3.trans (Same.laid (o := .tup [V.str "halve", V.str "pair", V.str "others", V.str "fill"]) no4)
          exact ⟨.ref p, rfl, here _ s4 (by simp only [lmoved, if_neg (show ¬ ((file = f ∨ file = g) ∧ row = 0) from fun z => e' z.2)])⟩
      · rw [decide_eq_false hm]
        refine iteF ?_
        refine ⟨.str "front", rfl, rfl, _, rfl, iteD_no (by decide +kernel) ?_⟩
        refine ⟨.str "front", rfl, by show 4 ≤ sizeLine; decide, fun o4 no4 => ⟨o4, _, rfl, .inr (SqT.of upd_same), rfl, rfl, _, rfl, iteB_no (by decide +kernel) ?_⟩⟩
        have s4 := s3.trans (Same.laid (o := .tup [V.str "halve", V.str "pair", V.str "others", V.str "fill"]) no4)
        exact ⟨.ref p, rfl, here _ s4 (by simp only [lmoved, if_neg (show ¬ ((file = f ∨ file = g) ∧ row = 0) from fun z => hm z.1)])⟩
    | wheel f g k =>
      refine ⟨.str "wheel", rfl, rfl, _, rfl, iteD_no (by decide +kernel) ?_⟩
      refine ⟨.str "wheel", rfl, rfl, _, rfl, iteD_no (by decide +kernel) ?_⟩
      refine ⟨.str "wheel", rfl, rfl, _, rfl, iteD_no (by decide +kernel) ?_⟩
      refine ⟨.str "wheel", rfl, by show 2 ≤ sizeLine; decide, fun o2 no2 => ⟨o2, _, rfl, .inr (SqT.of upd_same), rfl, rfl, _, rfl, iteB_no (by decide +kernel) ?_⟩⟩
      have s2 := Same.laid (o := .tup [V.str "swap", V.str "front"]) no2
      refine ⟨.str "wheel", rfl, rfl, _, rfl, iteD_yes (by decide +kernel) ?_⟩
      have ht1 := s2 _ _ ht
      refine ⟨.int file, rfl, .ref t, rfl, 1, rfl, 3, rfl, t, _, rfl, SqT.of ht1, (show ¬ (HT.sIx 4 0 (some 1) = 0 ∧ HT.sIx 4 4 (some 3) = 4) by decide), fun o3 no3 => ?_⟩
      have s3 := s2.trans (Same.laid (o := .tup [V.int f, V.int g]) no3)
      have ht3 := s3 _ _ ht
      refine ⟨o3, [.int f, .int g], rfl, .inr (SqT.of upd_same), rfl, rfl, _, rfl, ?_⟩
      rw [inV2]
      by_cases hm : file = f ∨ file = g
      · rw [decide_eq_true hm]
        refine iteT ⟨.int file, rfl, .ref t, rfl, t, _, 2, .int g, rfl, rfl, SqT.of ht3, atI_nat (j := 2) rfl, rfl, _, rfl, ite2 (fun e => ?_) (fun e => ?_)⟩
        · have e' : file = g := V.int.inj (of_decide_eq_true e)
          refine ⟨.int rows, rfl, .int row, rfl, rows, row, rfl, rfl, .ref t, rfl, t, _, 3, .int k, rfl, rfl, SqT.of ht3, atI_nat (j := 3) rfl, _, k, rfl, rfl, .inl ⟨_, rfl, .int rows, rfl, 2, rows, rfl, rfl, .inl ⟨by decide, by decide⟩, _, _, rfl, rfl, (show (2 : Int) * rows ≠ 0 by omega), ?_⟩⟩
          refine ⟨_, rfl, .int rows, rfl, _, rows, rfl, rfl, _, rfl, ite2 (fun e2 => ?_) (fun e2 => ?_)⟩
          · have e3 : rows ≤ (rows + row + k).fmod (2 * rows) := of_decide_eq_true e2
            refine ⟨_, rfl, .int rows, rfl, _, rows, rfl, rfl, .ref t, rfl, t, _, 2, .int g, rfl, rfl, SqT.of ht3, atI_nat (j := 2) rfl, two, ?_⟩
            exact q.new s3 (by simp only [lmoved, if_pos hm, if_pos e', if_pos e3])
          · have e3 : ¬ rows ≤ (rows + row + k).fmod (2 * rows) := fun z => e2 (decide_eq_true z)
            refine ⟨.int rows, rfl, rows, 1, rfl, rfl, _, rfl, _, _, rfl, rfl, .ref t, rfl, t, _, 1, .int f, rfl, rfl, SqT.of ht3, atI_nat (j := 1) rfl, two, ?_⟩
            exact q.new s3 (by simp only [lmoved, if_pos hm, if_pos e', if_neg e3])
        · have e' : ¬ file = g := fun z => e (decide_eq_true (congrArg V.int z))
          refine ⟨.int rows, rfl, rows, 1, rfl, rfl, .int row, rfl, _, row, rfl, rfl, .ref t, rfl, t, _, 3, .int k, rfl, rfl, SqT.of ht3, atI_nat (j := 3) rfl, _, k, rfl, rfl, .inl ⟨_, rfl, .int rows, rfl, 2, rows, rfl, rfl, .inl ⟨by decide, by decide⟩, _, _, rfl, rfl, (show (2 : Int) * rows ≠ 0 by omega), ?_⟩⟩
          refine ⟨_, rfl, .int rows, rfl, _, rows, rfl, rfl, _, rfl, ite2 (fun e2 => ?_) (fun e2 => ?_)⟩
          · have e3 : rows ≤ (rows - 1 - row + k).fmod (2 * rows) := of_decide_eq_true e2
            refine ⟨_, rfl, .int rows, rfl, _, rows, rfl, rfl, .ref t, rfl, t, _, 2, .int g, rfl, rfl, SqT.of ht3, atI_nat (j := 2) rfl, two, ?_⟩
            exact q.new s3 (by simp only [lmoved, if_pos hm, if_neg e', if_pos e3])
          · have e3 : ¬ rows ≤ (rows - 1 - row + k).fmod (2 * rows) := fun z => e2 (decide_eq_true z)
            refine ⟨.int rows, rfl, rows, 1, rfl, rfl, _, rfl, _, _, rfl, rfl, .ref t, rfl, t, _, 1, .int f, rfl, rfl, SqT.of ht3, atI_nat (j := 1) rfl, two, ?_⟩
            exact q.new s3 (by simp only [lmoved, if_pos hm, if_neg e', if_neg e3])
      · rw [decide_eq_false hm]
        refine iteF ?_
        refine ⟨.str "wheel", rfl, by show 4 ≤ sizeLine; decide, fun o4 no4 => ⟨o4, _, rfl, .inr (SqT.of upd_same), rfl, rfl, _, rfl, iteB_no (by decide +kernel) ?_⟩⟩
        have s4 := s3.trans (Same.laid (o := .tup [V.str "halve", V.str "pair", V.str "others", V.str "fill"]) no4)
        exact ⟨.ref p, rfl, here _ s4 (by simp only [lmoved, if_neg hm])⟩
    | halve =>
      refine ⟨.str "halve", rfl, rfl, _, rfl, iteD_no (by decide +kernel) ?_⟩
      refine ⟨.str "halve", rfl, rfl, _, rfl, iteD_no (by decide +kernel) ?_⟩
      refine ⟨.str "halve", rfl, rfl, _, rfl, iteD_no (by decide +kernel) ?_⟩
      refine ⟨.str "halve", rfl, by show 2 ≤ sizeLine; decide, fun o2 no2 => ⟨o2, _, rfl, .inr (SqT.of upd_same), rfl, rfl, _, rfl, iteB_no (by decide +kernel) ?_⟩⟩
      have s2 := Same.laid (o := .tup [V.str "swap", V.str "front"]) no2
      refine ⟨.str "halve", rfl, rfl, _, rfl, iteD_no (by decide +kernel) ?_⟩
      refine ⟨.str "halve", rfl, by show 4 ≤ sizeLine; decide, fun o4 no4 => ⟨o4, _, rfl, .inr (SqT.of upd_same), rfl, rfl, _, rfl, iteB_yes (by decide +kernel) ?_⟩⟩
      have s4 := s2.trans (Same.laid (o := .tup [V.str "halve", V.str "pair", V.str "others", V.str "fill"]) no4)
      exact ⟨.str "halve", rfl, .int files, rfl, .int rows, rfl, .ref p, rfl, p, .halve, files, rows, row, file, rfl, .inl rfl, s4 _ _ hp, by omega, by omega, by omega, by omega, fun H' o sm e => q H' o (s4.trans sm) e⟩
    | pair =>
      refine ⟨.str "pair", rfl, rfl, _, rfl, iteD_no (by decide +kernel) ?_⟩
      refine ⟨.str "pair", rfl, rfl, _, rfl, iteD_no (by decide +kernel) ?_⟩
      refine ⟨.str "pair", rfl, rfl, _, rfl, iteD_no (by decide +kernel) ?_⟩
      refine ⟨.str "pair", rfl, by show 2 ≤ sizeLine; decide, fun o2 no2 => ⟨o2, _, rfl, .inr (SqT.of upd_same), rfl, rfl, _, rfl, iteB_no (by decide +kernel) ?_⟩⟩
      have s2 := Same.laid (o := .tup [V.str "swap", V.str "front"]) no2
      refine ⟨.str "pair", rfl, rfl, _, rfl, iteD_no (by decide +kernel) ?_⟩
      refine ⟨.str "pair", rfl, by show 4 ≤ sizeLine; decide, fun o4 no4 => ⟨o4, _, rfl, .inr (SqT.of upd_same), rfl, rfl, _, rfl, iteB_yes (by decide +kernel) ?_⟩⟩
      have s4 := s2.trans (Same.laid (o := .tup [V.str "halve", V.str "pair", V.str "others", V.str "fill"]) no4)
      exact ⟨.str "pair", rfl, .int files, rfl, .int rows, rfl, .ref p, rfl, p, .pair, files, rows, row, file, rfl, .inr (.inl rfl), s4 _ _ hp, by omega, by omega, by omega, by omega, fun H' o sm e => q H' o (s4.trans sm) e⟩
    | others =>
      refine ⟨.str "others", rfl, rfl, _, rfl, iteD_no (by decide +kernel) ?_⟩
      refine ⟨.str "others", rfl, rfl, _, rfl, iteD_no (by decide +kernel) ?_⟩
      refine ⟨.str "others", rfl, rfl, _, rfl, iteD_no (by decide +kernel) ?_⟩
      refine ⟨.str "others", rfl, by show 2 ≤ sizeLine; decide, fun o2 no2 => ⟨o2, _, rfl, .inr (SqT.of upd_same), rfl, rfl, _, rfl, iteB_no (by decide +kernel) ?_⟩⟩
      have s2 := Same.laid (o := .tup [V.str "swap", V.str "front"]) no2
      refine ⟨.str "others", rfl, rfl, _, rfl, iteD_no (by decide +kernel) ?_⟩
      refine ⟨.str "others", rfl, by show 4 ≤ sizeLine; decide, fun o4 no4 => ⟨o4, _, rfl, .inr (SqT.of upd_same), rfl, rfl, _, rfl, iteB_yes (by decide +kernel) ?_⟩⟩
      have s4 := s2.trans (Same.laid (o := .tup [V.str "halve", V.str "pair", V.str "others", V.str "fill"]) no4)
      exact ⟨.str "others", rfl, .int files, rfl, .int rows, rfl, .ref p, rfl, p, .others, files, rows, row, file, rfl, .inr (.inr (.inl rfl)), s4 _ _ hp, by omega, by omega, by omega, by omega, fun H' o sm e => q H' o (s4.trans sm) e⟩
    | fill =>
      refine ⟨.str "fill", rfl, rfl, _, rfl, iteD_no (by decide +kernel) ?_⟩
      refine ⟨.str "fill", rfl, rfl, _, rfl, iteD_no (by decide +kernel) ?_⟩
      refine ⟨.str "fill", rfl, rfl, _, rfl, iteD_no (by decide +kernel) ?_⟩
      refine ⟨.str "fill", rfl, by show 2 ≤ sizeLine; decide, fun o2 no2 => ⟨o2, _, rfl, .inr (SqT.of upd_same), rfl, rfl, _, rfl, iteB_no (by decide +kernel) ?_⟩⟩
      have s2 := Same.laid (o := .tup [V.str "swap", V.str "front"]) no2
      refine ⟨.str "fill", rfl, rfl, _, rfl, iteD_no (by decide +kernel) ?_⟩
      refine ⟨.str "fill", rfl, by show 4 ≤ sizeLine; decide, fun o4 no4 => ⟨o4, _, rfl, .inr (SqT.of upd_same), rfl, rfl, _, rfl, iteB_yes (by decide +kernel) ?_⟩⟩
      have s4 := s2.trans (Same.laid (o := .tup [V.str "halve", V.str "pair", V.str "others", V.str "fill"]) no4)
      exact ⟨.str "fill", rfl, .int files, rfl, .int rows, rfl, .ref p, rfl, p, .fill, files, rows, row, file, rfl, .inr (.inr (.inr rfl)), s4 _ _ hp, by omega, by omega, by omega, by omega, fun H' o sm e => q H' o (s4.trans sm) e⟩
end
end Pup

set_option Elab.async false
set_option linter.all false
set_option maxRecDepth 100000
set_option maxHeartbeats 1000000
namespace Pup
open PySem PySem.Spec PyProof.Rows L2
section
variable {K : PySem.W.Frag} {H : Hp}
def encC : Cal → PyData
  | .all k => .tuple [.str "all", .int k]
  | .up f k => .tuple [.str "up", .int f, .int k]
  | .swap f g => .tuple [.str "swap", .int f, .int g]
  | .wheel f g k => .tuple [.str "wheel", .int f, .int g, .int k]
  | .about => .tuple [.str "about"]
  | .front f g => .tuple [.str "front", .int f, .int g]
  | .halve => .tuple [.str "halve"]
  | .pair => .tuple [.str "pair"]
  | .others => .tuple [.str "others"]
  | .fill => .tuple [.str "fill"]
theorem dp_ints : ∀ a : List Int, DpAll K H (vi a) (a.map PyData.int)
  | [] => .nil
  | x :: a => .cons (.int x) (dp_ints a)
theorem dp_T {t : Addr} {a : List Int} (h : H t = some (.tup (vi a))) : Dp K H (.ref t) (encT a) := .tup (SqT.of h) (dp_ints a)
theorem dp_C {t : Addr} {c : Cal} (h : H t = some (.tup (cv c))) : Dp K H (.ref t) (encC c) := by
  cases c <;> refine .tup (SqT.of h) ?_
  · exact .cons (.str _) (.cons (.int _) .nil)
  · exact .cons (.str _) (.cons (.int _) (.cons (.int _) .nil))
  · exact .cons (.str _) (.cons (.int _) (.cons (.int _) .nil))
  · exact .cons (.str _) (.cons (.int _) (.cons (.int _) (.cons (.int _) .nil)))
  · exact .cons (.str _) .nil
  · exact .cons (.str _) (.cons (.int _) (.cons (.int _) .nil))
  · exact .cons (.str _) .nil
  · exact .cons (.str _) .nil
  · exact .cons (.str _) .nil
  · exact .cons (.str _) .nil
theorem dp_pair {α : Type} {F : Addr → α → Prop} {enc : α → PyData} (f : ∀ t a, F t a → Dp K H (.ref t) (enc a)) {ts : List Addr} {as : List α} (h : Paired F ts as) : DpAll K H (ts.map V.ref) (as.map enc) := by
  induction h with
  | nil => exact .nil
  | cons r t ih => exact .cons (f _ _ r) ih
theorem dp_Ts {l : Addr} {as : List (List Int)} (h : TupsAt H l as) : Dp K H (.ref l) (.list (as.map encT)) := by
  obtain ⟨ts, h1, h2⟩ := h
  exact .lst (SqL.of h1) (dp_pair (fun _ _ e => dp_T e) h2)
theorem dp_Cs {l : Addr} {cs : List Cal} (h : CallsAt H l cs) : Dp K H (.ref l) (.list (cs.map encC)) := by
  obtain ⟨ts, h1, h2⟩ := h
  exact .lst (SqL.of h1) (dp_pair (fun _ _ e => dp_C e) h2)
theorem lay_ints : ∀ a : List Int, PyData.canLayAll0 (a.map PyData.int) = true
  | [] => rfl
  | x :: a => by
    show PyData.canLayAll0 (PyData.int x :: a.map PyData.int) = true
    rw [PyData.canLayAll0, lay_ints a]
    rfl
theorem lay_map {α : Type} {enc : α → PyData} (h : ∀ a, (enc a).canLay0 = true) : ∀ as : List α, PyData.canLayAll0 (as.map enc) = true
  | [] => rfl
  | x :: a => by
    show PyData.canLayAll0 (enc x :: a.map enc) = true
    rw [PyData.canLayAll0, lay_map h a, h x]
    rfl
theorem depth_map {α : Type} {enc : α → PyData} {d : Nat} (h : ∀ a, (enc a).depth ≤ d) : ∀ as : List α, PyData.depthAll (as.map enc) ≤ d
  | [] => by
    show PyData.depthAll [] ≤ d
    simp [PyData.depthAll]
  | x :: a => by
    show PyData.depthAll (enc x :: a.map enc) ≤ d
    rw [PyData.depthAll]
    have := depth_map h a
    have := h x
    omega
theorem lay_T (a : List Int) : (encT a).canLay0 = true := by
  unfold encT
  rw [PyData.canLay0]
  exact lay_ints a
theorem lay_L (a : List Int) : (encL a).canLay0 = true := by
  unfold encL
  rw [PyData.canLay0]
  exact lay_ints a
theorem lay_C (c : Cal) : (encC c).canLay0 = true := by
  have s : PyData.strOk ("all" : Str) = true ∧ PyData.strOk ("up" : Str) = true ∧ PyData.strOk ("swap" : Str) = true ∧ PyData.strOk ("wheel" : Str) = true ∧ PyData.strOk ("about" : Str) = true ∧ PyData.strOk ("front" : Str) = true ∧ PyData.strOk ("halve" : Str) = true ∧ PyData.strOk ("pair" : Str) = true ∧ PyData.strOk ("others" : Str) = true ∧ PyData.strOk ("fill" : Str) = true := by decide +kernel
  obtain ⟨s1, s2, s3, s4, s5, s6, s7, s8, s9, s10⟩ := s
  cases c <;> simp only [encC, PyData.canLay0, PyData.canLayAll0, s1, s2, s3, s4, s5, s6, s7, s8, s9, s10, Bool.and_self]
theorem depth_C (c : Cal) : (encC c).depth ≤ 1 := by
  cases c <;> simp [encC, PyData.depth, PyData.depthAll]
theorem shaped_of {d : PyData} (h : d.canLay0 = true) (h2 : d.depth ≤ 64) : SeqAt.shaped d = true := by
  unfold SeqAt.shaped
  rw [h, decide_eq_true h2]
  rfl
theorem shaped_T (a : List Int) : SeqAt.shaped (encT a) = true := shaped_of (lay_T a) (by rw [depth_T]; decide)
theorem shaped_L (a : List Int) : SeqAt.shaped (encL a) = true := shaped_of (lay_L a) (by rw [depth_L]; decide)
theorem shaped_C (c : Cal) : SeqAt.shaped (encC c) = true := shaped_of (lay_C c) (by have := depth_C c; omega)
theorem shaped_Ts (as : List (List Int)) : SeqAt.shaped (.list (as.map encT)) = true := by
  refine shaped_of ?_ ?_
  · rw [PyData.canLay0]
    exact lay_map lay_T as
  · rw [PyData.depth]
    have := depth_map (enc := encT) (d := 1) (fun a => by rw [depth_T]; exact Nat.le_refl _) as
    omega
theorem shaped_Cs (cs : List Cal) : SeqAt.shaped (.list (cs.map encC)) = true := by
  refine shaped_of ?_ ?_
  · rw [PyData.canLay0]
    exact lay_map lay_C cs
  · rw [PyData.depth]
    have := depth_map (enc := encC) (d := 1) depth_C cs
    omega
theorem eqv_same {d : PyData} (h : SeqAt.shaped d = true) : PyData.eqv d d = true := SeqAt.eqv_refl d (SeqAt.canLay_of_shaped h)
theorem eqv_empty (as : List (List Int)) : PyData.eqv (.list (as.map encT)) (.list []) = as.isEmpty := by
  rw [PyData.eqv]
  cases as with
  | nil => rfl
  | cons x as =>
    show PyData.eqvAll (encT x :: as.map encT) [] = false
    rw [PyData.eqvAll]
end
end Pup

set_option Elab.async false
set_option linter.all false
set_option maxRecDepth 100000
set_option maxHeartbeats 4000000
namespace Pup
open PySem PySem.Spec PyProof.Rows L2
section
variable {P : Program} {w : World} {K : PySem.W.Frag} {mg : Str → Option Value} {base : Heap}

theorem lgoal {files rows : Nat} (ok : Okl files rows) {c : Cal} (v : Valid files c) {i : Nat} (hi : i < files * rows) {r : Int × Int} (e : r = lmoved c files rows ((i : Int).fdiv files) ((i : Int) - files * (i : Int).fdiv files)) :
    r.1 * files + r.2 = goalI files rows c i := by
  obtain ⟨f0, f1, r0, r1, six, npos⟩ := okl_lt ok
  have pf : (0 : Int) < files := by omega
  have hrow : 0 ≤ (i : Int).fdiv files ∧ (i : Int).fdiv files < rows := by
    rw [fdiv_pos pf]
    refine ⟨Int.ediv_nonneg (by omega) (by omega), Int.ediv_lt_of_lt_mul pf ?_⟩
    have : ((files * rows : Nat) : Int) = rows * files := by rw [Int.natCast_mul, Int.mul_comm]
    omega
  rw [lmoved_eq v hrow, fmod_sub] at e
  unfold goalI
  rw [← e]

/-! done -/
def sp_l_done : Sp := fun vs H Q _ => ∃ (t cl : Addr) (a : List Int) (c : Cal) (files rows : Nat), vs = [.int files, .int rows, .ref t, .ref cl] ∧ H t = some (.tup (vi a)) ∧ H cl = some (.tup (cv c)) ∧ a.length = files * rows ∧ Okl files rows ∧ Valid files c ∧
  ∀ H' p, L2.Same H H' → H p = none → H' p = some (.tup (vi (dn a (goals files rows c)))) → Q (.ref p) H'
theorem ok_l_done (T : Txt K mg) : FnOk P w K mg base CX0 3 T.f_l_done T.d_l_done ps_l_done sp_l_done := by
  refine T.F_l_done.ok sc_l_done (fun vs H Q E h => ?_) (fun cdv A outer s H vs Q E hr h => ?_)
  · obtain ⟨t, cl, a, c, files, rows, rfl, _⟩ := h
    rfl
  · obtain ⟨t, cl, a, c, files, rows, rfl, ht, hcl, la, ok, v, q⟩ := h
    obtain ⟨f0, f1, r0, r1, six, npos⟩ := okl_lt ok
    have gd := goals_gd ok v
    refine ⟨_, (pss_cons (ps_set (i := 4) sc_l_done.nd rfl (.inl rfl) (pe_callTy call_list_of (by rfl) T.n_list (by decide +kernel) (pa_cons (pv 2) pa_nil)))
      (pss_cons (ps_for PassesOwn.never rfl (pi_range1 (by rfl) T.n_range (pa_cons (pe_op op_mul (pv 0) (pv 1)) pa_nil)) (pg_name (i := 5) sc_l_done.nd rfl (.inl rfl))
      (pss_cons (ps_asg (pe_call (ok_l_goes T) hr (by rfl) T.g_l_goes T.F_l_goes.kp T.b_l_goes .nil pass0 (pa_cons (pv 3) (pa_cons (pv 0) (pa_cons (pv 1) (pa_cons (pe_tup (pa_cons (pe_op op_fdivN (pv 5) (pv 0)) (pa_cons (pe_op op_sub (pv 5) (pe_op op_mul (pv 0) (pe_op op_fdivN (pv 5) (pv 0)))) pa_nil))) pa_nil))))) (pg_tup rfl (pgs_cons (pg_name (i := 6) sc_l_done.nd rfl (.inl rfl)) (pgs_cons (pg_name (i := 7) sc_l_done.nd rfl (.inl rfl)) pgs_nil))))
      (pss_one (ps_asg (pe_ix ix_tup (pv 2) (pv 5) (fun _ _ => rfl)) (pg_sub (pv 4) (pe_op op_add (pe_op op_mul (pv 6) (pv 0)) (pv 7)) set_list)))))
      (pss_one (ps_ret (pe_callTy call_tuple_of (by rfl) T.n_tuple (by decide +kernel) (pa_cons (pv 4) pa_nil)))))), ?_⟩
    have two : (2 : Nat) ≤ sizeLine := by decide
    obtain ⟨n, hn⟩ : ∃ n, n = files * rows := ⟨_, rfl⟩
    have en : (files : Int) * rows = (n : Int) := by rw [hn, Int.natCast_mul]
    refine ⟨.ref t, rfl, t, vi a, rfl, .inr (SqT.of ht), fun o no => ?_⟩
    have s0 : L2.Same H (upd H o (.lst (vi a))) := Same.laid no
    refine ⟨.int files, rfl, .int rows, rfl, files, rows, rfl, rfl, .inl ⟨by omega, by omega⟩, (files : Int) * rows, rfl, by omega, by omega, ?_⟩
    rw [en, Int.toNat_natCast]
    refine for_range (fun i σ H1 => ∃ y5 y6 y7, σ = [some (.int files), some (.int rows), some (.ref t), some (.ref cl), some (.ref o), y5, y6, y7] ∧ L2.Same H H1 ∧ H1 o = some (.lst (vi (setAll a (((goals files rows c).zip a).take i))))) ⟨none, none, none, rfl, s0, upd_same⟩ ?_ ?_
    · rintro i σ H1 hi ⟨y5, y6, y7, rfl, sm, ho⟩
      have hi' : i < files * rows := by omega
      have e0 : (0 + (i : Int)) = i := by omega
      rw [e0]
      refine ⟨.ref cl, rfl, .int files, rfl, .int rows, rfl, .int i, rfl, .int files, rfl, i, files, rfl, rfl, ⟨by omega, by omega⟩, .int i, rfl, .int files, rfl, .int i, rfl, .int files, rfl, i, files, rfl, rfl, ⟨by omega, by omega⟩, files, _, rfl, rfl, .inl ⟨by omega, by omega⟩, i, _, rfl, rfl, two, fun p np => ?_⟩
      have s1 := Same.laid (o := .tup [.int ((i : Int).fdiv files), .int ((i : Int) - files * (i : Int).fdiv files)]) np
      refine ⟨cl, p, c, files, rows, _, _, rfl, s1 _ _ (sm _ _ hcl), upd_same, by omega, by omega, by omega, by omega, fun H2 z s2 hz => ?_⟩
      refine ⟨z, _, rfl, SqT.of hz, rfl, _, _, rfl, _, _, rfl, rfl, ?_⟩
      have sm2 := sm.trans (s1.trans s2)
      have ho2 : H2 o = some (.lst (vi (setAll a (((goals files rows c).zip a).take i)))) := s2 _ _ (s1 _ _ ho)
      have i1 : i < (goals files rows c).length := by
        rw [gd.len]
        exact hi'
      have i2 : i < a.length := by
        rw [la]
        exact hi'
      have hg : goalI files rows c i = (((goals files rows c)[i] : Nat) : Int) := by
        have := goals_at ok v hi'
        rw [List.getElem?_eq_getElem i1] at this
        rw [Option.some.inj this, Int.toNat_of_nonneg (goalI_nonneg ok v hi')]
      have eg := (lgoal ok v hi' rfl).trans hg
      refine ⟨.ref t, rfl, .int i, rfl, t, vi a, _, _, rfl, rfl, SqT.of (sm2 _ _ ht), atI_nat (vi_at i2), .ref o, rfl, _, rfl, .int files, rfl, _, files, rfl, rfl, .inr ⟨by omega, by omega⟩, _, rfl, _, _, rfl, rfl, o, _, _, (goals files rows c)[i], rfl, rfl, ho2, ?_, _, _, _, rfl, fun b u e => ?_, ?_⟩
      · rw [eg]
        refine ixN_nat ?_
        unfold vi
        rw [List.length_map, setAll_len, la]
        exact gd.lt _ (List.getElem_mem i1)
      · have nb : b ≠ o := ne_of_none e no
        rw [upd_ne nb]
        exact sm2 _ _ e
      · rw [upd_same, dn_step i1 i2]
        unfold vi
        rw [List.map_set]
    · rintro σ H1 ⟨y5, y6, y7, rfl, sm, ho⟩
      refine ⟨.ref o, rfl, o, _, rfl, .inl ⟨SqL.of ho, fun p np => ?_⟩⟩
      refine q _ p (sm.trans (Same.laid np)) (sm.free np) ?_
      rw [upd_same, List.take_of_length_le]
      · rfl
      · rw [List.length_zip, gd.len, la]
        omega
end
end Pup

set_option Elab.async false
set_option linter.all false
set_option maxRecDepth 100000
set_option maxHeartbeats 4000000
namespace Pup
open PySem PySem.Spec PyProof.Rows L2
section
variable {P : Program} {w : World} {K : PySem.W.Frag} {mg : Str → Option Value} {base : Heap}

/-! reached, the law's own -/
theorem mvs_at {files rows : Nat} {cs : List Cal} {j : Nat} (h : j < cs.length) : (mvs files rows cs)[j]? = some (goals files rows cs[j]) := by
  unfold mvs
  rw [List.getElem?_map, List.getElem?_eq_getElem h]
  rfl
theorem ok_l_reached (T : Txt K mg) : FnOk P w K mg base CX0 4 T.f_l_reached T.d_l_reached ps_l_reached sp_reached := by
  refine T.F_l_reached.ok sc_l_reached (fun vs H Q E h => ?_) (fun cdv A outer s H vs Q E hr h => ?_)
  · obtain ⟨cl, cs, files, rows, rfl, _⟩ := h
    rfl
  · obtain ⟨cl, cs, files, rows, rfl, hcl, ok, va, few, q⟩ := h
    have hu := hu_of hr
    obtain ⟨n, hn⟩ : ∃ n, n = files * rows := ⟨_, rfl⟩
    obtain ⟨f0, f1, r0, r1, six, npos⟩ := okl_lt ok
    rw [← hn] at six npos q
    have gd := mvs_gd ok va
    rw [← hn] at gd
    have en : (files : Int) * rows = (n : Int) := by rw [hn, Int.natCast_mul]
    have lmv : (mvs files rows cs).length = cs.length := by
      unfold mvs
      rw [List.length_map]
    refine ⟨_, (pss_cons (ps_set (i := 3) sc_l_reached.nd rfl (.inl rfl) (pe_tupRg rfl (by rfl) T.n_tuple (prg_1 (by rfl) T.n_range (pe_op op_mul (pv 0) (pv 1)))))
      (pss_cons (ps_par (i := 4) (j := 5) rfl sc_l_reached.nd rfl rfl (by decide) rfl rfl (pa_cons (pe_disp1 hr.units0 (pv 3) (pe_lst pa_nil)) (pa_cons (pe_lst (pa_cons (pv 3) pa_nil)) pa_nil)) (by rfl))
      (pss_cons (ps_while PassesOwn.never (pt_cmpR (op_neD hr.units) (pv 5) (pe_lst pa_nil) (nomark _)) (pss_cons (ps_set (i := 6) sc_l_reached.nd rfl (.inl rfl) (pe_lst pa_nil))
      (pss_cons (ps_for PassesOwn.never rfl (pi_list (pe_callTy call_list_of (by rfl) T.n_list (by decide +kernel) (pa_cons (pv 5) pa_nil))) (pg_name (i := 7) sc_l_reached.nd rfl (.inl rfl))
      (pss_one (ps_for PassesOwn.never rfl (pi_range1 (by rfl) T.n_range (pa_cons (pe_callB call_len_seq (by rfl) T.n_len (by decide +kernel) (pa_cons (pv 2) pa_nil)) pa_nil)) (pg_name (i := 8) sc_l_reached.nd rfl (.inl rfl))
      (pss_cons (ps_set (i := 9) sc_l_reached.nd rfl (.inl rfl) (pe_call (ok_l_done T) hr (by rfl) T.g_l_done T.F_l_done.kp T.b_l_done .nil pass0 (pa_cons (pv 0) (pa_cons (pv 1) (pa_cons (pv 7) (pa_cons (pe_ix ix_list (pv 2) (pv 8) (fun _ _ => rfl)) pa_nil))))))
      (pss_one (ps_if (pt_cmp (pc_dnotin hu (pv 9) (pv 4))) (pss_cons (ps_dput hu (pv 4) (pv 9) (pe_op op_cat (pe_dget hu (pv 4) (pv 7) (fun _ _ => rfl)) (pe_lst (pa_cons (pv 8) pa_nil))) rfl)
      (pss_one (ps_expr (pe_bm PySem.F.plainAttrs_list PySem.F.slot_list_append PySem.F.type_list_append mt_append (pv 6) (pa_cons (pv 9) pa_nil))))) pss_nil))))))
      (pss_one (ps_set (i := 5) sc_l_reached.nd rfl (.inl rfl) (pv 6))))))
      (pss_one (ps_ret (pv 4)))))), ?_⟩
    obtain ⟨ts, hts, pts⟩ := hcl
    have lts : ts.length = cs.length := Paired.length pts
    -- start
    refine ⟨.int files, rfl, .int rows, rfl, files, rows, rfl, rfl, .inl ⟨by omega, by omega⟩, (files : Int) * rows, rfl, RgOk.of_le (by omega) (by rw [en]; omega) (by omega) (by rw [en]; omega), fun st nst => ?_⟩
    rw [en, rgV_iota]
    have s2 := Same.laid (o := .tup (vi (iota n))) nst
    -- found, level
    refine fun D nD => ⟨.ref st, rfl, Nat.zero_le _, fun l0 nl0 => ?_⟩
    have s3 := Same.laid (o := .dT []) nD
    have s4 := Same.laid (o := .lst []) nl0
    have hst := s4 _ _ (s3 _ _ (upd_same (H := H) (a := st) (o := .tup (vi (iota n)))))
    have nDl : D ≠ l0 := fun z => by
      rw [z, upd_same] at nl0
      cases nl0
    refine ⟨s4 _ _ upd_same, st, (iota n).map Sum.inl, rfl, by rw [vi_key]; exact hst, .ref st, rfl, by show 1 ≤ sizeLine; decide, fun lv nlv => ?_⟩
    have nD0 : H D = none := s2.free nD
    refine ⟨.ref D, .ref lv, rfl, ?_⟩
    -- the heap at the loop
    generalize hHA : upd (upd (upd (upd H st (.tup (vi (iota n)))) D (.dT [])) l0 (.lst [])) D (.dT [((iota n).map Sum.inl, .ref l0)]) = HA at nlv ⊢
    have sA : L2.Same H HA := by
      intro b u e
      rw [← hHA, upd_ne (ne_of_none e nD0)]
      exact s4 _ _ (s3 _ _ (s2 _ _ e))
    have s5 := Same.laid (o := .lst [V.ref st]) nlv
    have fA : FoundAt HA D [(iota n, 0)] := by
      refine ⟨[((iota n).map Sum.inl, .ref l0)], by rw [← hHA]; exact upd_same, .cons ⟨rfl, l0, [], rfl, ?_, rfl⟩ .nil⟩
      rw [← hHA, upd_ne (Ne.symm nDl), upd_same]
    have tA : HA st = some (.tup (vi (iota n))) := by
      rw [← hHA, upd_ne (ne_of hst (s4 _ _ upd_same) (fun z => HO.noConfusion z))]
      exact hst
    refine ⟨fun μ σ Hc => ∃ (lv : Addr) (y7 y8 y9 y10 : Option V) (m : List (List Int × Nat)) (t : Nat) (level : List (List Int)), σ = [some (.int files), some (.int rows), some (.ref cl), some (.ref st), some (.ref D), some (.ref lv), y7, y8, y9, y10] ∧ L2.Same H Hc ∧
        FoundAt Hc D m ∧ TupsAt Hc lv level ∧ Sweep (fns files rows cs) (iota n) m t level ∧ (level ≠ [] → t + 1 ≤ m.length) ∧ μ = 2 * (fact n - m.length) + (if level = [] then 0 else 1),
      ⟨_, lv, none, none, none, none, [(iota n, 0)], 0, [iota n], rfl, sA.trans s5, fA.keep s5, ⟨[st], upd_same, .cons (s5 _ _ tA) .nil⟩, Sweep.first, fun _ => Nat.le_refl _, rfl⟩, ?_⟩
    rintro μ σ Hc0 ⟨lv, y7, y8, y9, y10, m, t, level, rfl, sc00, fc0, tc0, sw, cnt, hμ⟩
    refine ⟨.ref lv, rfl, Nat.zero_le _, fun e0 ne0 => ?_⟩
    have se0 := Same.laid (o := .lst []) ne0
    have tc := tc0.keep (SameS.of se0)
    refine ⟨.list (level.map encT), .list [], dp_Ts tc, .lst (SqL.of upd_same) .nil, shaped_Ts level, shaped_Ts [], _, rfl, ?_⟩
    rw [eqv_empty]
    have sc0 := sc00.trans se0
    have fc := fc0.keep se0
    generalize upd Hc0 e0 (.lst []) = Hc at sc0 fc tc ⊢
    clear sc00 fc0 tc0 ne0 se0
    obtain ⟨us, hus, pus⟩ := id tc
    have lus : us.length = level.length := Paired.length pus
    cases hlev : level with
    | nil =>
      refine iteF ⟨.ref D, rfl, ?_⟩
      rw [hlev] at sw
      exact q Hc D m sc0 nD0 fc sw.done
    | cons a0 lrest =>
      have hne : level ≠ [] := by
        rw [hlev]
        exact List.cons_ne_nil _ _
      refine iteT ⟨fun σ' H' => ∃ (lv : Addr) (y7 y8 y9 y10 : Option V) (m' : List (List Int × Nat)) (t : Nat) (level : List (List Int)), σ' = [some (.int files), some (.int rows), some (.ref cl), some (.ref st), some (.ref D), some (.ref lv), y7, y8, y9, y10] ∧ L2.Same H H' ∧
        FoundAt H' D m' ∧ TupsAt H' lv level ∧ Sweep (fns files rows cs) (iota n) m' t level ∧ (level ≠ [] → t + 1 ≤ m'.length) ∧ m.length + level.length ≤ m'.length ∧ (level = [] ∨ m.length < m'.length), ?_, ?_⟩
      · rintro σ' H' ⟨lv, y7, y8, y9, y10, m', t', level', e1, e2, e4, e5, e6, e7, e8, e9⟩
        refine ⟨_, ?_, lv, y7, y8, y9, y10, m', t', level', e1, e2, e4, e5, e6, e7, rfl⟩
        have k1 := keys_le gd e6.nd e6.rn
        rw [hμ, if_neg hne]
        by_cases z : level' = []
        · rw [if_pos z]
          omega
        · rw [if_neg z]
          have := e9.resolve_left z
          omega
      · -- later = []
        refine ⟨Nat.zero_le _, fun L nL => ?_⟩
        have s6 := Same.laid (o := .lst []) nL
        refine ⟨.ref lv, rfl, lv, _, rfl, .inl (SqL.of (s6 _ _ hus)), fun lc nlc => ?_⟩
        have s7 := Same.laid (o := .lst (us.map V.ref)) nlc
        have nlL : lc ≠ L := fun z => by
          rw [z, upd_same] at nlc
          cases nlc
        obtain ⟨Rr, hRr⟩ : ∃ Rr : Hp → Prop, Rr = fun H => H lc = some (.lst (us.map V.ref)) ∧ Paired (fun t a => H t = some (.tup (vi a))) us level := ⟨_, rfl⟩
        have hR : ∀ H H', SameS H H' → Rr H → Rr H' := by
          rw [hRr]
          exact fun _ _ s x => ⟨s _ _ lst_no x.1, pair_imp x.2 fun _ _ e => s _ _ tup_no e⟩
        have sb : L2.Same Hc (but L (upd (upd Hc L (.lst [])) lc (.lst (us.map V.ref)))) := same_but (s6.trans s7) nL
        have mid0 : Mid Rr H (upd (upd Hc L (.lst [])) lc (.lst (us.map V.ref))) n (mvs files rows cs) D L m.length t none level [] m := by
          refine ⟨sc0.trans sb, ?_, fc.keep sb, ⟨[], s7 _ _ upd_same, .nil⟩, sw.into, Nat.le_refl _⟩
          rw [hRr]
          refine ⟨?_, pair_imp pus fun _ _ e => sb _ _ e⟩
          rw [but_ne nlL, upd_same]
        have tm := cnt hne
        refine ⟨lc, rfl, ⟨_, SqL.of upd_same⟩, for_list (xs := us.map V.ref) (fun i σ H2 => ∃ (y8 y9 y10 : Option V) (m' : List (List Int × Nat)) (later : List (List Int)), σ = [some (.int files), some (.int rows), some (.ref cl), some (.ref st), some (.ref D), some (.ref lv), some (.ref L), y8, y9, y10] ∧
          Mid Rr H H2 n (mvs files rows cs) D L m.length t none (level.drop i) later m') ⟨_, _, _, m, [], rfl, mid0⟩ ?_ ?_ ?_⟩
        · rintro i σ H2 _ ⟨y8, y9, y10, m', later, rfl, mid⟩
          have := mid.r
          rw [hRr] at this
          exact SqL.of (but_same _ _ this.1)
        · rintro i x σ H2 hx ⟨y8, y9, y10, m', later, rfl, mid⟩
          have hi : i < level.length := by
            have := (List.getElem?_eq_some_iff.mp hx).1
            rw [List.length_map] at this
            omega
          have hr0 := mid.r
          rw [hRr] at hr0
          obtain ⟨ti, hti, hta⟩ := paired_at hr0.2 hi
          have ex : x = .ref ti := by
            have := refs_get hti
            rw [hx] at this
            exact Option.some.inj this
          subst ex
          have edrop : level.drop i = level[i] :: level.drop (i + 1) := List.drop_eq_getElem_cons hi
          have hw : Within (fns files rows cs) (iota n) m' t none (level[i] :: level.drop (i + 1)) later := by
            rw [← edrop]
            exact mid.w
          have midp : Mid Rr H H2 n (mvs files rows cs) D L m.length t (some (level[i], [])) (level.drop (i + 1)) later m' := ⟨mid.s0, mid.r, mid.f, mid.l, hw.pick, mid.c⟩
          refine ⟨.ref cl, rfl, cl, _, rfl, .inl (SqL.of (but_same _ _ (mid.s0 _ _ hts))), _, rfl, by omega, by rw [List.length_map]; omega, ?_⟩
          rw [List.length_map, Int.toNat_natCast]
          refine for_range (fun j σ H3 => ∃ (y9 y10 : Option V) (m' : List (List Int × Nat)) (later : List (List Int)), σ = [some (.int files), some (.int rows), some (.ref cl), some (.ref st), some (.ref D), some (.ref lv), some (.ref L), some (.ref ti), y9, y10] ∧
            H3 ti = some (.tup (vi level[i])) ∧ Mid Rr H H3 n (mvs files rows cs) D L m.length t (some (level[i], ((mvs files rows cs).take j).map fun g a => dn a g)) (level.drop (i + 1)) later m')
            ⟨y9, y10, m', later, rfl, but_same _ _ hta, midp⟩ ?_ ?_
          · rintro j σ H3 hj0 ⟨y9, y10, m', later, rfl, ha3, mid3⟩
            have hjc : j < cs.length := by omega
            have hj : j < (mvs files rows cs).length := by omega
            have eg : (mvs files rows cs)[j] = goals files rows cs[j] := by
              have := mvs_at (files := files) (rows := rows) hjc
              rw [List.getElem?_eq_getElem hj] at this
              exact Option.some.inj this
            obtain ⟨tj, htj, hcj⟩ := paired_at pts hjc
            have etake : ((mvs files rows cs).take (j + 1)).map (fun g a => dn a g) = ((mvs files rows cs).take j).map (fun g a => dn a g) ++ [fun a => dn a (mvs files rows cs)[j]] := by
              rw [List.take_succ, List.getElem?_eq_getElem hj, List.map_append]
              rfl
            have hgm : (mvs files rows cs)[j] ∈ mvs files rows cs := List.getElem_mem hj
            have arr : Arr n level[i] := reach_arr gd (sw.rn _ _ (sw.lv _ (List.getElem_mem hi)))
            have e0 : (0 + (j : Int)) = j := by omega
            rw [e0]
            refine ⟨.int files, rfl, .int rows, rfl, .ref ti, rfl, .ref cl, rfl, .int j, rfl, cl, _, _, .ref tj, rfl, rfl, SqL.of (but_same _ _ (mid3.s0 _ _ hts)), atI_nat (refs_get htj), ti, tj, level[i], cs[j], files, rows, rfl, ha3, but_same _ _ (mid3.s0 _ _ hcj), by rw [arr.len, hn], ok, va _ (List.getElem_mem hjc), fun H5 pg s9 npg hpg => ?_⟩
            rw [← eg] at hpg
            have mid5 := mid3.keep hR s9
            obtain ⟨kvs, k1, k2⟩ := mid5.f
            have hD5 : H5 D = some (.dT kvs) := but_same _ _ k1
            have hpk : H5 pg = some (.tup (((dn level[i] (mvs files rows cs)[j]).map Sum.inl).map kV)) := by
              rw [vi_key]
              exact hpg
            have ha5 := s9 _ _ ha3
            refine ⟨.ref pg, rfl, .ref D, rfl, D, _, rfl, DGet.t hD5 hpk, _, rfl, ?_⟩
            by_cases hm : dn level[i] (mvs files rows cs)[j] ∈ m'.map (·.1)
            · obtain ⟨⟨b, d⟩, hb1, hb2⟩ := List.mem_map.mp hm
              have hb3 : b = dn level[i] (mvs files rows cs)[j] := hb2
              rw [hb3] at hb1
              obtain ⟨l, xs, v1, _, _⟩ := val_in k2 mid5.w.nd hb1
              rw [v1]
              refine iteF ⟨_, _, m', later, rfl, ha5, ?_⟩
              rw [etake]
              exact mid5.met hm
            · rw [val_out k2 hm]
              obtain ⟨q1, _⟩ := mid5.w.nw _ _ rfl
              obtain ⟨l, xs, v1, v2, v3⟩ := val_in k2 mid5.w.nd q1
              have hak : H5 ti = some (.tup ((level[i].map Sum.inl).map kV)) := by
                rw [vi_key]
                exact ha5
              refine iteT ⟨.ref D, rfl, .ref ti, rfl, D, .ref l, rfl, ?_, .int (j : Nat), rfl, by show 1 ≤ sizeLine; decide, fun p1 np1 => ?_⟩
              · rw [← v1]
                exact DGet.t hD5 hak
              · have s10 := Same.laid (o := .lst [V.int (j : Nat)]) np1
                have mle := keys_le gd mid5.w.nd mid5.w.rn
                have fle := fact_le six
                have c5 := mid5.c
                refine ⟨l, p1, xs, _, rfl, rfl, s10 _ _ (but_same _ _ v2), upd_same, by rw [List.length_singleton, v3, sizeLine_eq]; omega, fun p2 np2 => ?_⟩
                have s11 := Same.laid (o := .lst (xs ++ [V.int (j : Nat)])) np2
                have mid7 := (mid5.keep hR s10).keep hR s11
                have hD7 := s11 _ _ (s10 _ _ hD5)
                have lk : kvs.length = m'.length := Paired.length k2
                refine ⟨.ref D, rfl, .ref pg, rfl, D, _, rfl, DPut.t hD7 (s11 _ _ (s10 _ _ hpk)) (by rw [lk, sizeLine_eq]; omega), ?_⟩
                obtain ⟨us2, hL7, pus2⟩ := mid7.l
                have nDL : D ≠ L := ne_of hD7 hL7 (fun z => HO.noConfusion z)
                have np2L : p2 ≠ L := fun z => by
                  rw [z] at np2
                  have hL6 := (mid5.keep hR s10).l
                  obtain ⟨_, z1, _⟩ := hL6
                  rw [z1] at np2
                  cases np2
                have hL8 : ∀ o, upd (upd (upd H5 p1 (.lst [V.int (j : Nat)])) p2 (.lst (xs ++ [V.int (j : Nat)]))) D o L = some (.lst (us2.map V.ref)) := fun o => by
                  rw [upd_ne (Ne.symm nDL)]
                  exact hL7
                have lus2 : us2.length = later.length := Paired.length pus2
                refine ⟨.ref L, rfl, .inl ⟨rfl, _, SqL.of (hL8 _)⟩, .ref pg, rfl, L, _, _, rfl, rfl, hL8 _, by rw [List.length_map, lus2, sizeLine_eq]; omega, ?_⟩
                refine ⟨_, _, m' ++ [(dn level[i] (mvs files rows cs)[j], t + 1)], later ++ [dn level[i] (mvs files rows cs)[j]], rfl, ?_, ?_⟩
                · have nti : ti ≠ L := ne_of ha5 (show H5 L = some (.lst (us2.map V.ref)) by
                    obtain ⟨us3, z1, _⟩ := mid5.l
                    have z2 := s11 _ _ (s10 _ _ z1)
                    rw [hL7] at z2
                    rw [z1, ← z2]) (fun z => HO.noConfusion z)
                  rw [upd_ne nti, upd_ne (ne_of ha5 hD5 (fun z => HO.noConfusion z))]
                  exact s11 _ _ (s10 _ _ ha5)
                · rw [etake]
                  exact mid7.new hR hgm hm (s11 _ _ (s10 _ _ hpg)) upd_same np2L (by rw [List.length_append, List.length_singleton, v3]) hD7 nD0 hL7
          · rintro σ H3 ⟨y9, y10, m', later, rfl, ha3, mid3⟩
            have efull : (mvs files rows cs).take ts.length = mvs files rows cs := List.take_of_length_le (by omega)
            rw [efull] at mid3
            exact ⟨_, _, _, m', later, rfl, mid3.s0, mid3.r, mid3.f, mid3.l, mid3.w.drop, mid3.c⟩
        · rintro σ H2 ⟨y8, y9, y10, m', later, rfl, mid⟩
          have e0 : level.drop (us.map V.ref).length = [] := List.drop_eq_nil_of_le (by rw [List.length_map, lus]; exact Nat.le_refl _)
          rw [e0] at mid
          have hr2 := mid.r
          rw [hRr] at hr2
          obtain ⟨us2, hL2, pus2⟩ := mid.l
          have c2 := mid.c
          refine ⟨.ref L, rfl, L, _, _, _, _, m', t + 1, later, rfl, mid.s0.trans but_same, mid.f.keep but_same, ⟨us2, hL2, pair_imp pus2 fun _ _ e => but_same _ _ e⟩, mid.w.out, fun hl => ?_, c2, ?_⟩
          · have := List.length_pos_iff.mpr hl
            omega
          · by_cases z : later = []
            · exact .inl z
            · have := List.length_pos_iff.mpr z
              exact .inr (by omega)
end
end Pup

set_option Elab.async false
set_option linter.all false
set_option maxRecDepth 100000
set_option maxHeartbeats 4000000
namespace Pup
open PySem PySem.Spec PyProof.Rows L2
section
variable {P : Program} {w : World} {K : PySem.W.Frag} {mg : Str → Option Value} {base : Heap}

def neg : Cal → Cal
  | .all k => .all (0 - k)
  | .up f k => .up f (0 - k)
  | .wheel f g k => .wheel f g (0 - k)
  | c => c
def turn : Cal → Cal
  | .halve => .pair
  | .pair => .halve
  | .others => .fill
  | .fill => .others
  | c => c
theorem undo_is (c : Cal) : undo c = turn (neg c) := by cases c <;> rfl
def restOf (c : Cal) : List V := (cv c).tail
theorem cv_is (c : Cal) : cv c = .str (wordOf c) :: restOf c := by cases c <;> rfl
theorem rest_turn (c : Cal) : restOf (turn c) = restOf c := by cases c <;> rfl
theorem rest_cut (c : Cal) : cutV (cv c) (some 1) none = restOf c := by cases c <;> rfl
theorem rest_not (c : Cal) : ¬ (HT.sIx (cv c).length 0 (some 1) = 0 ∧ HT.sIx (cv c).length (cv c).length none = (cv c).length) := by
  cases c <;> first | exact (show ¬ (HT.sIx 1 0 (some 1) = 0 ∧ HT.sIx 1 1 none = 1) by decide) | exact (show ¬ (HT.sIx 2 0 (some 1) = 0 ∧ HT.sIx 2 2 none = 2) by decide) | exact (show ¬ (HT.sIx 3 0 (some 1) = 0 ∧ HT.sIx 3 3 none = 3) by decide) | exact (show ¬ (HT.sIx 4 0 (some 1) = 0 ∧ HT.sIx 4 4 none = 4) by decide)
theorem rest_len (c : Cal) : (restOf c).length ≤ 3 := by cases c <;> first | exact (show 0 ≤ 3 by decide) | exact (show 1 ≤ 3 by decide) | exact (show 2 ≤ 3 by decide) | exact (show 3 ≤ 3 by decide)
def wordsK : List (L2.Key × V) := [(.inr "halve", .str "pair"), (.inr "pair", .str "halve"), (.inr "others", .str "fill"), (.inr "fill", .str "others")]
theorem words_get (c : Cal) : (valV wordsK (.inr (wordOf c))).getD (.str (wordOf c)) = .str (wordOf (turn c)) := by
  cases c
  · exact (show (valV wordsK (.inr "all")).getD (.str "all") = .str "all" by decide +kernel)
  · exact (show (valV wordsK (.inr "up")).getD (.str "up") = .str "up" by decide +kernel)
  · exact (show (valV wordsK (.inr "swap")).getD (.str "swap") = .str "swap" by decide +kernel)
  · exact (show (valV wordsK (.inr "wheel")).getD (.str "wheel") = .str "wheel" by decide +kernel)
  · exact (show (valV wordsK (.inr "about")).getD (.str "about") = .str "about" by decide +kernel)
  · exact (show (valV wordsK (.inr "front")).getD (.str "front") = .str "front" by decide +kernel)
  · exact (show (valV wordsK (.inr "halve")).getD (.str "halve") = .str "pair" by decide +kernel)
  · exact (show (valV wordsK (.inr "pair")).getD (.str "pair") = .str "halve" by decide +kernel)
  · exact (show (valV wordsK (.inr "others")).getD (.str "others") = .str "fill" by decide +kernel)
  · exact (show (valV wordsK (.inr "fill")).getD (.str "fill") = .str "others" by decide +kernel)

theorem paired_app {α β : Type} {F : α → β → Prop} {a c : List α} {b d : List β} (h : Paired F a b) (g : Paired F c d) : Paired F (a ++ c) (b ++ d) := by
  induction h with
  | nil => exact g
  | cons r t ih => exact .cons r ih
theorem paired_rev {α β : Type} {F : α → β → Prop} {a : List α} {b : List β} (h : Paired F a b) : Paired F a.reverse b.reverse := by
  induction h with
  | nil => exact .nil
  | cons r t ih =>
    rw [List.reverse_cons, List.reverse_cons]
    exact paired_app ih (.cons r .nil)
/-! undo -/
def sp_l_undo : Sp := fun vs H Q _ => ∃ (cl : Addr) (cs : List Cal), vs = [.ref cl] ∧ CallsAt H cl cs ∧ cs.length ≤ 1000 ∧ ∀ H' p, L2.Same H H' → H p = none → CallsAt H' p (cs.reverse.map undo) → Q (.ref p) H'
theorem ok_l_undo (T : Txt K mg) : FnOk P w K mg base CX0 1 T.f_l_undo T.d_l_undo ps_l_undo sp_l_undo := by
  refine T.F_l_undo.ok sc_l_undo (fun vs H Q E h => ?_) (fun cdv A outer s H vs Q E hr h => ?_)
  · obtain ⟨cl, cs, rfl, _⟩ := h
    rfl
  · obtain ⟨cl, cs, rfl, hcl, few, q⟩ := h
    have hu := hu_of hr
    refine ⟨_, (pss_cons (ps_par (i := 1) (j := 2) rfl sc_l_undo.nd rfl rfl (by decide) rfl rfl (pa_cons (pe_disp (pps_cons pe_str pe_str (pps_cons pe_str pe_str (pps_cons pe_str pe_str (pps_cons pe_str pe_str pps_nil)))) (by rfl) (by rfl) (fun z => by cases z) (by decide)) (pa_cons (pe_lst pa_nil) pa_nil)) (by rfl))
      (pss_cons (ps_for PassesOwn.never rfl (pi_list (L2.pe_revL (pv 0))) (pg_name (i := 3) sc_l_undo.nd rfl (.inl rfl))
      (Evl.pss_cut (ps_if (pt_cmpR op_in_seq (pe_ix ix_tup (pv 3) pe_int (fun _ _ => rfl)) (pe_tup (pa_cons pe_str (pa_cons pe_str (pa_cons pe_str pa_nil)))) (by rfl)) (pss_one (ps_set (i := 3) sc_l_undo.nd rfl (.inl rfl) (pe_op op_catT (pe_slice sl_tup (pv 3) po_none (po_some (pe_un un_neg pe_int))) (pe_tup (pa_cons (pe_op op_sub pe_int (pe_ix ix_tup (pv 3) (pe_un un_neg pe_int) (fun _ _ => rfl))) pa_nil))))) pss_nil)
      (pss_one (ps_expr (pe_bm PySem.F.plainAttrs_list PySem.F.slot_list_append PySem.F.type_list_append mt_append (pv 2) (pa_cons (pe_op op_catT (pe_tup (pa_cons (pe_dget2 hu (pv 1) (pe_ix ix_tup (pv 3) pe_int (fun _ _ => rfl)) (pe_ix ix_tup (pv 3) pe_int (fun _ _ => rfl)) ⟨rfl, rfl, rfl, rfl⟩) pa_nil)) (pe_slice sl_tup (pv 3) (po_some pe_int) po_none)) pa_nil))))))
      (pss_one (ps_ret (pv 2))))), ?_⟩
    obtain ⟨ts, hts, pts⟩ := hcl
    have lts : ts.length = cs.length := Paired.length pts
    refine fun wd nwd => ⟨upd_same, wordsK, rfl, by show 4 ≤ 15; decide, Nat.zero_le _, fun fl nfl => ⟨_, _, rfl, ?_⟩⟩
    have hW0 : upd (upd H wd (.dK [])) wd (.dK (mergeK [] wordsK)) wd = some (.dK wordsK) := upd_same
    have s1 : L2.Same H (upd (upd H wd (.dK [])) wd (.dK (mergeK [] wordsK))) := fun b u e => by
      rw [upd_ne (ne_of_none e nwd), upd_ne (ne_of_none e nwd)]
      exact e
    generalize upd (upd H wd (.dK [])) wd (.dK (mergeK [] wordsK)) = HW at nfl hW0 s1 ⊢
    have s2 := Same.laid (o := .lst []) nfl
    have nf0 : H fl = none := s1.free nfl
    refine ⟨.ref cl, rfl, cl, _, rfl, SqL.of (s2 _ _ (s1 _ _ hts)), fun rl nrl => ?_⟩
    have s3 := Same.laid (o := .lst (ts.map V.ref).reverse) nrl
    have nrf : rl ≠ fl := fun z => by
      rw [z, upd_same] at nrl
      cases nrl
    have hF0 : upd (upd HW fl (.lst [])) rl (.lst (ts.map V.ref).reverse) fl = some (.lst []) := s3 _ _ upd_same
    have hR0 : but fl (upd (upd HW fl (.lst [])) rl (.lst (ts.map V.ref).reverse)) rl = some (.lst (ts.map V.ref).reverse) := by
      rw [but_ne nrf, upd_same]
    have sb : L2.Same HW (but fl (upd (upd HW fl (.lst [])) rl (.lst (ts.map V.ref).reverse))) := same_but (s2.trans s3) nfl
    generalize upd (upd HW fl (.lst [])) rl (.lst (ts.map V.ref).reverse) = HS at hF0 hR0 sb ⊢
    clear s2 s3
    have erev : (ts.map V.ref).reverse = ts.reverse.map V.ref := List.map_reverse.symm
    rw [erev] at hR0
    have prev : Paired (fun t c => but fl HS t = some (.tup (cv c))) ts.reverse cs.reverse := paired_rev (pair_imp pts fun _ _ e => sb _ _ (s1 _ _ e))
    refine ⟨rl, rfl, ⟨_, SqL.of (but_same _ _ hR0)⟩, for_list (xs := ts.reverse.map V.ref) (fun i σ H1 => ∃ (y : Option V), σ = [some (.ref cl), some (.ref wd), some (.ref fl), y] ∧ L2.Same (but fl HS) (but fl H1) ∧
      ∃ us : List Addr, H1 fl = some (.lst (us.map V.ref)) ∧ Paired (fun t c => but fl H1 t = some (.tup (cv c))) us ((cs.reverse.map undo).take i)) ⟨none, rfl, Same.refl _, [], hF0, .nil⟩ ?_ ?_ ?_⟩
    · rintro i σ H1 _ ⟨y, rfl, sm, _⟩
      exact SqL.of (but_same _ _ (sm _ _ hR0))
    · rintro i x σ H1 hx ⟨y, rfl, sm, us, hf, pus⟩
      have hi : i < cs.reverse.length := by
        have := (List.getElem?_eq_some_iff.mp hx).1
        rw [List.length_map, List.length_reverse] at this
        rw [List.length_reverse]
        omega
      obtain ⟨t, ht0, hta⟩ := paired_at prev hi
      have ex : x = .ref t := Option.some.inj (hx.symm.trans (refs_get ht0))
      subst ex
      have ht : H1 t = some (.tup (cv cs.reverse[i])) := but_same _ _ (sm _ _ hta)
      have hW1 : H1 wd = some (.dK wordsK) := but_same _ _ (sm _ _ (sb _ _ hW0))
      generalize hc : cs.reverse[i] = c at ht
      refine ⟨fun σ' H2 => ∃ t2, σ' = [some (.ref cl), some (.ref wd), some (.ref fl), some (.ref t2)] ∧ L2.Same H1 H2 ∧ H2 t2 = some (.tup (cv (neg c))), ?_, ?_⟩
      · have three : (3 : Nat) ≤ sizeLine := by decide
        have one : (1 : Nat) ≤ sizeLine := by decide
        cases c with
        | all k =>
          refine ⟨.ref t, rfl, t, _, 0, .str "all", rfl, rfl, SqT.of ht, atI_nat (j := 0) rfl, three, fun o no => ⟨o, _, rfl, .inr (SqT.of upd_same), rfl, rfl, _, rfl, iteB_yes (by decide +kernel) ?_⟩⟩
          have s4 := Same.laid (o := .tup [V.str "all", V.str "up", V.str "wheel"]) no
          refine ⟨.ref t, rfl, 1, rfl, -1, rfl, t, _, rfl, SqT.of (s4 _ _ ht), (show ¬ (HT.sIx 2 0 none = 0 ∧ HT.sIx 2 2 (some (-1)) = 2) by decide), fun o5 no5 => ?_⟩
          have e5 : cutV (cv (.all k)) none (some (-1)) = [V.str "all"] := rfl
          rw [e5] at *
          have s5 := s4.trans (Same.laid (o := .tup [V.str "all"]) no5)
          refine ⟨.ref t, rfl, 1, rfl, t, _, -1, .int k, rfl, rfl, SqT.of (s5 _ _ ht), rfl, 0, k, rfl, rfl, one, fun o6 no6 => ?_⟩
          have s6 := s5.trans (Same.laid (o := .tup [V.int (0 - k)]) no6)
          refine ⟨o5, o6, _, _, rfl, rfl, SqT.of (Same.laid no6 _ _ upd_same), SqT.of upd_same, List.cons_ne_nil _ _, by show 2 ≤ sizeLine; decide, fun z => (nomatch z), fun _ o7 no7 => ?_⟩
          exact ⟨o7, rfl, s6.trans (Same.laid no7), upd_same⟩
        | up f k =>
          refine ⟨.ref t, rfl, t, _, 0, .str "up", rfl, rfl, SqT.of ht, atI_nat (j := 0) rfl, three, fun o no => ⟨o, _, rfl, .inr (SqT.of upd_same), rfl, rfl, _, rfl, iteB_yes (by decide +kernel) ?_⟩⟩
          have s4 := Same.laid (o := .tup [V.str "all", V.str "up", V.str "wheel"]) no
          refine ⟨.ref t, rfl, 1, rfl, -1, rfl, t, _, rfl, SqT.of (s4 _ _ ht), (show ¬ (HT.sIx 3 0 none = 0 ∧ HT.sIx 3 3 (some (-1)) = 3) by decide), fun o5 no5 => ?_⟩
          have e5 : cutV (cv (.up f k)) none (some (-1)) = [V.str "up", V.int f] := rfl
          rw [e5] at *
          have s5 := s4.trans (Same.laid (o := .tup [V.str "up", V.int f]) no5)
          refine ⟨.ref t, rfl, 1, rfl, t, _, -1, .int k, rfl, rfl, SqT.of (s5 _ _ ht), rfl, 0, k, rfl, rfl, one, fun o6 no6 => ?_⟩
          have s6 := s5.trans (Same.laid (o := .tup [V.int (0 - k)]) no6)
          refine ⟨o5, o6, _, _, rfl, rfl, SqT.of (Same.laid no6 _ _ upd_same), SqT.of upd_same, List.cons_ne_nil _ _, by show 3 ≤ sizeLine; decide, fun z => (nomatch z), fun _ o7 no7 => ?_⟩
          exact ⟨o7, rfl, s6.trans (Same.laid no7), upd_same⟩
        | swap f g =>
          refine ⟨.ref t, rfl, t, _, 0, .str "swap", rfl, rfl, SqT.of ht, atI_nat (j := 0) rfl, three, fun o no => ⟨o, _, rfl, .inr (SqT.of upd_same), rfl, rfl, _, rfl, iteB_no (by decide +kernel) ?_⟩⟩
          have s4 := Same.laid (o := .tup [V.str "all", V.str "up", V.str "wheel"]) no
          exact ⟨t, rfl, s4, s4 _ _ ht⟩
        | wheel f g k =>
          refine ⟨.ref t, rfl, t, _, 0, .str "wheel", rfl, rfl, SqT.of ht, atI_nat (j := 0) rfl, three, fun o no => ⟨o, _, rfl, .inr (SqT.of upd_same), rfl, rfl, _, rfl, iteB_yes (by decide +kernel) ?_⟩⟩
          have s4 := Same.laid (o := .tup [V.str "all", V.str "up", V.str "wheel"]) no
          refine ⟨.ref t, rfl, 1, rfl, -1, rfl, t, _, rfl, SqT.of (s4 _ _ ht), (show ¬ (HT.sIx 4 0 none = 0 ∧ HT.sIx 4 4 (some (-1)) = 4) by decide), fun o5 no5 => ?_⟩
          have e5 : cutV (cv (.wheel f g k)) none (some (-1)) = [V.str "wheel", V.int f, V.int g] := rfl
          rw [e5] at *
          have s5 := s4.trans (Same.laid (o := .tup [V.str "wheel", V.int f, V.int g]) no5)
          refine ⟨.ref t, rfl, 1, rfl, t, _, -1, .int k, rfl, rfl, SqT.of (s5 _ _ ht), rfl, 0, k, rfl, rfl, one, fun o6 no6 => ?_⟩
          have s6 := s5.trans (Same.laid (o := .tup [V.int (0 - k)]) no6)
          refine ⟨o5, o6, _, _, rfl, rfl, SqT.of (Same.laid no6 _ _ upd_same), SqT.of upd_same, List.cons_ne_nil _ _, by show 4 ≤ sizeLine; decide, fun z => (nomatch z), fun _ o7 no7 => ?_⟩
          exact ⟨o7, rfl, s6.trans (Same.laid no7), upd_same⟩
        | about =>
          refine ⟨.ref t, rfl, t, _, 0, .str "about", rfl, rfl, SqT.of ht, atI_nat (j := 0) rfl, three, fun o no => ⟨o, _, rfl, .inr (SqT.of upd_same), rfl, rfl, _, rfl, iteB_no (by decide +kernel) ?_⟩⟩
          have s4 := Same.laid (o := .tup [V.str "all", V.str "up", V.str "wheel"]) no
          exact ⟨t, rfl, s4, s4 _ _ ht⟩
        | front f g =>
          refine ⟨.ref t, rfl, t, _, 0, .str "front", rfl, rfl, SqT.of ht, atI_nat (j := 0) rfl, three, fun o no => ⟨o, _, rfl, .inr (SqT.of upd_same), rfl, rfl, _, rfl, iteB_no (by decide +kernel) ?_⟩⟩
          have s4 := Same.laid (o := .tup [V.str "all", V.str "up", V.str "wheel"]) no
          exact ⟨t, rfl, s4, s4 _ _ ht⟩
        | halve =>
          refine ⟨.ref t, rfl, t, _, 0, .str "halve", rfl, rfl, SqT.of ht, atI_nat (j := 0) rfl, three, fun o no => ⟨o, _, rfl, .inr (SqT.of upd_same), rfl, rfl, _, rfl, iteB_no (by decide +kernel) ?_⟩⟩
          have s4 := Same.laid (o := .tup [V.str "all", V.str "up", V.str "wheel"]) no
          exact ⟨t, rfl, s4, s4 _ _ ht⟩
        | pair =>
          refine ⟨.ref t, rfl, t, _, 0, .str "pair", rfl, rfl, SqT.of ht, atI_nat (j := 0) rfl, three, fun o no => ⟨o, _, rfl, .inr (SqT.of upd_same), rfl, rfl, _, rfl, iteB_no (by decide +kernel) ?_⟩⟩
          have s4 := Same.laid (o := .tup [V.str "all", V.str "up", V.str "wheel"]) no
          exact ⟨t, rfl, s4, s4 _ _ ht⟩
        | others =>
          refine ⟨.ref t, rfl, t, _, 0, .str "others", rfl, rfl, SqT.of ht, atI_nat (j := 0) rfl, three, fun o no => ⟨o, _, rfl, .inr (SqT.of upd_same), rfl, rfl, _, rfl, iteB_no (by decide +kernel) ?_⟩⟩
          have s4 := Same.laid (o := .tup [V.str "all", V.str "up", V.str "wheel"]) no
          exact ⟨t, rfl, s4, s4 _ _ ht⟩
        | fill =>
          refine ⟨.ref t, rfl, t, _, 0, .str "fill", rfl, rfl, SqT.of ht, atI_nat (j := 0) rfl, three, fun o no => ⟨o, _, rfl, .inr (SqT.of upd_same), rfl, rfl, _, rfl, iteB_no (by decide +kernel) ?_⟩⟩
          have s4 := Same.laid (o := .tup [V.str "all", V.str "up", V.str "wheel"]) no
          exact ⟨t, rfl, s4, s4 _ _ ht⟩
      · rintro σ' H2 ⟨t2, rfl, s2, ht2⟩
        have one : (1 : Nat) ≤ sizeLine := by decide
        have hf2 := s2 _ _ hf
        have hW2 := s2 _ _ hW1
        have hw0 : (cv (neg c))[0]? = some (V.str (wordOf (neg c))) := by rw [cv_is]; rfl
        have at0 : atI (cv (neg c)) 0 = some (V.str (wordOf (neg c))) := atI_nat (j := 0) hw0
        refine ⟨.ref fl, rfl, .inl ⟨rfl, _, SqL.of hf2⟩, .ref wd, rfl, wd, rfl, (show IsD H2 wd from .inl ⟨_, .inl hW2⟩), .ref t2, rfl, t2, _, 0, _, rfl, rfl, SqT.of ht2, at0, .ref t2, rfl, t2, _, 0, _, rfl, rfl, SqT.of ht2, at0, _, DGet.k (k := .inr (wordOf (neg c))) hW2, ?_⟩
        rw [words_get]
        refine ⟨one, fun o5 no5 => ⟨.ref t2, rfl, 1, rfl, t2, _, rfl, SqT.of (Same.laid no5 _ _ ht2), rest_not _, fun o6 no6 => ?_⟩⟩
        rw [rest_cut] at *
        have s5 := s2.trans (Same.laid (o := .tup [V.str (wordOf (turn (neg c)))]) no5)
        have s6 := s5.trans (Same.laid (o := .tup (restOf (neg c))) no6)
        have hy : ∀ H3 t3, L2.Same H1 H3 → H3 t3 = some (.tup (cv (turn (neg c)))) → ∃ (l : Addr) (xs : List V) (y : V), V.ref fl = V.ref l ∧ [V.ref t3] = [y] ∧ H3 l = some (.lst xs) ∧ xs.length < sizeLine ∧ ∃ (y3 : Option V), [some (V.ref cl), some (V.ref wd), some (V.ref fl), some (V.ref t2)] = [some (V.ref cl), some (V.ref wd), some (V.ref fl), y3] ∧ L2.Same (but fl HS) (but fl (upd H3 l (.lst (xs ++ [y])))) ∧
            ∃ us : List Addr, upd H3 l (.lst (xs ++ [y])) fl = some (.lst (us.map V.ref)) ∧ Paired (fun t c => but fl (upd H3 l (.lst (xs ++ [y]))) t = some (.tup (cv c))) us ((cs.reverse.map undo).take (i + 1)) := by
          intro H3 t3 s3 h3
          have hf3 := s3 _ _ hf
          have lus : us.length ≤ i := by
            rw [Paired.length pus, List.length_take]
            omega
          refine ⟨fl, _, _, rfl, rfl, hf3, ?_, _, rfl, ?_, us ++ [t3], ?_, ?_⟩
          · rw [List.length_map, sizeLine_eq]
            rw [List.length_reverse] at hi
            omega
          · rw [but_upd]
            exact sm.trans (Same.but s3)
          · rw [upd_same, List.map_append]
            rfl
          · have ei : (cs.reverse.map undo)[i]? = some (undo c) := by
              rw [List.getElem?_map, List.getElem?_eq_getElem hi, hc]
              rfl
            rw [but_upd, List.take_succ, ei, undo_is]
            refine Paired.snoc (pair_imp pus fun _ _ e => Same.but s3 _ _ e) ?_
            rw [but_ne (ne_of h3 hf3 (fun z => HO.noConfusion z))]
            exact h3
        have ecv : cv (turn (neg c)) = [V.str (wordOf (turn (neg c)))] ++ restOf (neg c) := by
          rw [cv_is, rest_turn]
          rfl
        refine ⟨o5, o6, _, _, rfl, rfl, SqT.of (Same.laid no6 _ _ upd_same), SqT.of upd_same, List.cons_ne_nil _ _, ?_, fun z => ?_, fun z o7 no7 => ?_⟩
        · have := rest_len (neg c)
          rw [List.length_singleton, sizeLine_eq]
          omega
        · refine hy _ o5 s6 ?_
          rw [ecv, z, List.append_nil]
          exact Same.laid no6 _ _ upd_same
        · refine hy _ o7 (s6.trans (Same.laid no7)) ?_
          rw [ecv]
          exact upd_same
    · rintro σ H1 ⟨y, rfl, sm, us, hf, pus⟩
      have full : (cs.reverse.map undo).take (ts.reverse.map V.ref).length = cs.reverse.map undo := by
        refine List.take_of_length_le ?_
        rw [List.length_map, List.length_map, List.length_reverse, List.length_reverse]
        omega
      rw [full] at pus
      exact ⟨.ref fl, rfl, q H1 fl (s1.trans (sb.trans (sm.trans but_same))) nf0 ⟨us, hf, pair_imp pus fun _ _ e => but_same _ _ e⟩⟩
end
end Pup

set_option Elab.async false
set_option linter.all false
set_option maxRecDepth 100000
set_option maxHeartbeats 4000000
namespace Pup
open PySem PySem.Spec PyProof.Rows L2
section
variable {P : Program} {w : World} {K : PySem.W.Frag} {mg : Str → Option Value} {base : Heap}

theorem u65 {k : Nat} {A : Around} (r : Room k A) : A.units + 65 < cLine := by
  have := r.un
  omega
theorem Draw.upd {b c p : Addr} {cells : List Int} {H H1 : Hp} {o : HO} (d : Draw b c cells H H1) (g : Bag H b c cells) (n : H p = none) : Draw b c cells H (upd H1 p o) := by
  have npb := new_ne g n
  refine ⟨fun a u e => ?_, ?_⟩
  · have nap : a ≠ p := by
      intro z
      rw [z, but_ne npb, n] at e
      cases e
    rw [but_upd_ne npb, upd_ne nap]
    exact d.s _ _ e
  · obtain ⟨⟨x0, x1, x2, e1⟩, e2⟩ := d.g
    refine ⟨⟨x0, x1, x2, ?_⟩, ?_⟩
    · rw [upd_ne (Ne.symm npb)]
      exact e1
    · have ncp : c ≠ p := by
        intro z
        have g2 := g.2
        rw [z, n] at g2
        cases g2
      rw [upd_ne ncp]
      exact e2

/-! small -/
def sp_l_small : Sp := fun vs H Q _ => ∃ (b c : Addr) (cells : List Int), vs = [.ref b] ∧ Bag H b c cells ∧
  ∀ H' p fl cs files rows, Draw b c cells H H' → Okl files rows → (∀ c ∈ cs, Valid files c) → cs.length ≤ 6 → CallsAt (but b H') fl cs → H' p = some (.tup [.int (files : Nat), .int (rows : Nat), .ref fl]) → Q (.ref p) H'
theorem ok_l_small (T : Txt K mg) : FnOk P w K mg base CX0 4 T.f_l_small T.d_l_small ps_l_small sp_l_small := by
  refine T.F_l_small.ok sc_l_small (fun vs H Q E h => ?_) (fun cdv A outer s H vs Q E hr h => ?_)
  · obtain ⟨b, c, cells, rfl, _⟩ := h
    rfl
  · obtain ⟨b, c, cells, rfl, g, q⟩ := h
    refine ⟨_, (pss_cons (ps_asg (pe_call (ok_l_one T) (hr.mono (by decide)) (by rfl) T.g_l_one T.F_l_one.kp T.b_l_one .nil pass0 (pa_cons (pv 0) (pa_cons (pe_lst (pa_cons (pe_tup (pa_cons pe_int (pa_cons pe_int pa_nil))) (pa_cons (pe_tup (pa_cons pe_int (pa_cons pe_int pa_nil))) (pa_cons (pe_tup (pa_cons pe_int (pa_cons pe_int pa_nil))) (pa_cons (pe_tup (pa_cons pe_int (pa_cons pe_int pa_nil))) (pa_cons (pe_tup (pa_cons pe_int (pa_cons pe_int pa_nil))) (pa_cons (pe_tup (pa_cons pe_int (pa_cons pe_int pa_nil))) (pa_cons (pe_tup (pa_cons pe_int (pa_cons pe_int pa_nil))) pa_nil)))))))) pa_nil))) (pg_tup rfl (pgs_cons (pg_name (i := 1) sc_l_small.nd rfl (.inl rfl)) (pgs_cons (pg_name (i := 2) sc_l_small.nd rfl (.inl rfl)) pgs_nil))))
      (pss_cons (ps_par (i := 3) (j := 4) rfl sc_l_small.nd rfl rfl (by decide) rfl rfl (pa_cons (pe_lst (pa_cons pe_str (pa_cons pe_str (pa_cons pe_str (pa_cons pe_str (pa_cons pe_str (pa_cons pe_str (pa_cons pe_str (pa_cons pe_str (pa_cons pe_str (pa_cons pe_str (pa_cons pe_str pa_nil)))))))))))) (pa_cons (pe_lst pa_nil) pa_nil)) (by rfl))
      (pss_cons (ps_for PassesOwn.never rfl (pi_range1 (by rfl) T.n_range (pa_cons (pe_call (ok_l_take T) (hr.mono (by decide)) (by rfl) T.g_l_take T.F_l_take.kp T.b_l_take .nil pass0 (pa_cons (pv 0) (pa_cons pe_int pa_nil))) pa_nil)) (pg_name (i := 5) sc_l_small.nd rfl (.inl rfl))
      (pss_cons (ps_set (i := 6) sc_l_small.nd rfl (.inl rfl) (pe_call (ok_l_call T) hr (by rfl) T.g_l_call T.F_l_call.kp T.b_l_call .nil pass0 (pa_cons (pv 0) (pa_cons (pv 1) (pa_cons (pv 3) (pa_cons (pe_call (ok_l_one T) (hr.mono (by decide)) (by rfl) T.g_l_one T.F_l_one.kp T.b_l_one .nil pass0 (pa_cons (pv 0) (pa_cons (pe_lst (pa_cons pe_int (pa_cons pe_int (pa_cons pe_int (pa_cons (pe_op op_pow pe_int pe_int) pa_nil))))) pa_nil))) pa_nil))))))
      (pss_one (ps_if (pt_cmpR (op_notInD (u65 hr)) (pv 6) (pv 4) (by rfl)) (pss_one (ps_expr (pe_bm PySem.F.plainAttrs_list PySem.F.slot_list_append PySem.F.type_list_append mt_append (pv 4) (pa_cons (pv 6) pa_nil)))) pss_nil))))
      (pss_one (ps_ret (pe_tup (pa_cons (pv 1) (pa_cons (pv 2) (pa_cons (pv 4) pa_nil))))))))), ?_⟩
    have two : (2 : Nat) ≤ sizeLine := by decide
    refine ⟨.ref b, rfl, two, fun p0 n0 => ⟨two, fun p1 n1 => ⟨two, fun p2 n2 => ⟨two, fun p3 n3 => ⟨two, fun p4 n4 => ⟨two, fun p5 n5 => ⟨two, fun p6 n6 => ?_⟩⟩⟩⟩⟩⟩⟩
    have s0 := Same.laid (o := .tup [V.int 2, V.int 1]) n0
    have t0 := upd_same (H := H) (a := p0) (o := .tup [V.int 2, V.int 1])
    generalize upd H p0 (.tup [V.int 2, V.int 1]) = H0 at s0 t0 n1 n2 n3 n4 n5 n6 ⊢
    have s1 := Same.laid (o := .tup [V.int 2, V.int 2]) n1
    have t1 := upd_same (H := H0) (a := p1) (o := .tup [V.int 2, V.int 2])
    generalize upd H0 p1 (.tup [V.int 2, V.int 2]) = H1 at s1 t1 n2 n3 n4 n5 n6 ⊢
    have s2 := Same.laid (o := .tup [V.int 2, V.int 3]) n2
    have t2 := upd_same (H := H1) (a := p2) (o := .tup [V.int 2, V.int 3])
    generalize upd H1 p2 (.tup [V.int 2, V.int 3]) = H2 at s2 t2 n3 n4 n5 n6 ⊢
    have s3 := Same.laid (o := .tup [V.int 2, V.int 3]) n3
    have t3 := upd_same (H := H2) (a := p3) (o := .tup [V.int 2, V.int 3])
    generalize upd H2 p3 (.tup [V.int 2, V.int 3]) = H3 at s3 t3 n4 n5 n6 ⊢
    have s4 := Same.laid (o := .tup [V.int 3, V.int 1]) n4
    have t4 := upd_same (H := H3) (a := p4) (o := .tup [V.int 3, V.int 1])
    generalize upd H3 p4 (.tup [V.int 3, V.int 1]) = H4 at s4 t4 n5 n6 ⊢
    have s5 := Same.laid (o := .tup [V.int 3, V.int 2]) n5
    have t5 := upd_same (H := H4) (a := p5) (o := .tup [V.int 3, V.int 2])
    generalize upd H4 p5 (.tup [V.int 3, V.int 2]) = H5 at s5 t5 n6 ⊢
    have s6 := Same.laid (o := .tup [V.int 3, V.int 2]) n6
    have t6 := upd_same (H := H5) (a := p6) (o := .tup [V.int 3, V.int 2])
    generalize upd H5 p6 (.tup [V.int 3, V.int 2]) = H6 at s6 t6 ⊢
    have t5 := s6 _ _ (t5)
    have t4 := s6 _ _ (s5 _ _ (t4))
    have t3 := s6 _ _ (s5 _ _ (s4 _ _ (t3)))
    have t2 := s6 _ _ (s5 _ _ (s4 _ _ (s3 _ _ (t2))))
    have t1 := s6 _ _ (s5 _ _ (s4 _ _ (s3 _ _ (s2 _ _ (t1)))))
    have t0 := s6 _ _ (s5 _ _ (s4 _ _ (s3 _ _ (s2 _ _ (s1 _ _ (t0))))))
    have sall : L2.Same H H6 := s0.trans (s1.trans (s2.trans (s3.trans (s4.trans (s5.trans (s6))))))
    have ga := g.keep sall
    have da : Draw b c cells H H6 := Draw.of g sall
    refine ⟨by show 7 ≤ sizeLine; decide, fun l nl => ?_⟩
    have sl := Same.laid (o := .lst [V.ref p0, V.ref p1, V.ref p2, V.ref p3, V.ref p4, V.ref p5, V.ref p6]) nl
    have gl := ga.keep sl
    have dl := da.trans (Draw.of ga sl)
    have hl : Held b (upd H6 l (.lst [V.ref p0, V.ref p1, V.ref p2, V.ref p3, V.ref p4, V.ref p5, V.ref p6])) l (.lst [V.ref p0, V.ref p1, V.ref p2, V.ref p3, V.ref p4, V.ref p5, V.ref p6]) := Held.of (new_ne ga nl) upd_same
    have tup_ne : ∀ {p : Addr} {x y : V}, H6 p = some (.tup [x, y]) → p ≠ b := fun {p x y} e z => by
      obtain ⟨⟨x0, x1, x2, e1⟩, _⟩ := ga
      rw [z, e1] at e
      cases e
    have t0 := Held.of (b := b) (tup_ne t0) t0
    have t1 := Held.of (b := b) (tup_ne t1) t1
    have t2 := Held.of (b := b) (tup_ne t2) t2
    have t3 := Held.of (b := b) (tup_ne t3) t3
    have t4 := Held.of (b := b) (tup_ne t4) t4
    have t5 := Held.of (b := b) (tup_ne t5) t5
    have t6 := Held.of (b := b) (tup_ne t6) t6
    have t0 := Held.same sl t0
    have t1 := Held.same sl t1
    have t2 := Held.same sl t2
    have t3 := Held.same sl t3
    have t4 := Held.same sl t4
    have t5 := Held.same sl t5
    have t6 := Held.same sl t6
    generalize upd H6 l (.lst [V.ref p0, V.ref p1, V.ref p2, V.ref p3, V.ref p4, V.ref p5, V.ref p6]) = HL at *
    refine ⟨b, c, l, cells, _, rfl, hl, by show 0 < 7; decide, by show 7 < 1000; decide, gl, fun x H1 hx d1 => ?_⟩
    obtain ⟨tp, files, rows, rfl, ok, htp⟩ : ∃ (t : Addr) (files rows : Nat), x = .ref t ∧ Okl files rows ∧ H1 t = some (.tup [.int files, .int rows]) := by
      simp only [List.mem_cons, List.not_mem_nil, or_false] at hx
      rcases hx with rfl | rfl | rfl | rfl | rfl | rfl | rfl
      · exact ⟨p0, 2, 1, rfl, .inl ⟨rfl, .inl rfl⟩, (Held.keep d1 t0).to⟩
      · exact ⟨p1, 2, 2, rfl, .inl ⟨rfl, .inr (.inl rfl)⟩, (Held.keep d1 t1).to⟩
      · exact ⟨p2, 2, 3, rfl, .inl ⟨rfl, .inr (.inr rfl)⟩, (Held.keep d1 t2).to⟩
      · exact ⟨p3, 2, 3, rfl, .inl ⟨rfl, .inr (.inr rfl)⟩, (Held.keep d1 t3).to⟩
      · exact ⟨p4, 3, 1, rfl, .inr ⟨rfl, .inl rfl⟩, (Held.keep d1 t4).to⟩
      · exact ⟨p5, 3, 2, rfl, .inr ⟨rfl, .inr rfl⟩, (Held.keep d1 t5).to⟩
      · exact ⟨p6, 3, 2, rfl, .inr ⟨rfl, .inr rfl⟩, (Held.keep d1 t6).to⟩
    have d2 := dl.trans d1
    refine ⟨tp, _, rfl, SqT.of htp, rfl, _, _, rfl, _, _, rfl, rfl, ?_⟩
    obtain ⟨f0, f1, r0, r1, six, npos⟩ := okl_lt ok
    have f2 : 2 ≤ files := by rcases ok with ⟨h, _⟩ | ⟨h, _⟩ <;> omega
    clear sl s0 s1 s2 s3 s4 s5 s6 hl gl dl d1 hx htp
    -- kinds, found
    refine ⟨by show 11 ≤ sizeLine; decide, fun kl nkl => ⟨Nat.zero_le _, fun fl nfl => ⟨_, _, rfl, ?_⟩⟩⟩
    have d3 := d2.trans (Draw.of d2.g (Same.laid (o := .lst kinds) nkl))
    have nkb := new_ne d2.g nkl
    have hk3 : Held b (upd H1 kl (.lst kinds)) kl (.lst kinds) := Held.of nkb upd_same
    have nkf : kl ≠ fl := fun z => by
      rw [← z, upd_same] at nfl
      cases nfl
    have nfb := new_ne d3.g nfl
    have d4 := d3.trans (Draw.of d3.g (Same.laid (o := .lst []) nfl))
    have hk4 := Held.same (b := b) (Same.laid (o := .lst []) nfl) hk3
    have hf4 : Held b (upd (upd H1 kl (.lst kinds)) fl (.lst [])) fl (.lst []) := Held.of nfb upd_same
    have kk : [V.str "all", V.str "up", V.str "up", V.str "swap", V.str "wheel", V.str "about", V.str "front", V.str "halve", V.str "pair", V.str "others", V.str "fill"] = kinds := rfl
    have n0 : H fl = none := by
      cases h : H fl with
      | none => rfl
      | some u =>
        have := d3.s fl u (by rw [but_ne nfb]; exact h)
        rw [but_ne nfb] at this
        rw [show upd H1 kl (.lst kinds) fl = none from nfl] at this
        cases this
    refine ⟨.ref b, rfl, b, c, cells, 7, rfl, by decide, by decide, d4.g, fun r H2 rr0 rr1 d5 => ⟨r, rfl, by omega, by omega, ?_⟩⟩
    refine for_range (fun i σ H3 => ∃ (y5 y6 : Option V), σ = [some (.ref b), some (.int files), some (.int rows), some (.ref kl), some (.ref fl), y5, y6] ∧ Draw b c cells H H3 ∧ Held b H3 kl (.lst kinds) ∧ ∃ cs, CallsAt (but b H3) fl cs ∧ (∀ c ∈ cs, Valid files c) ∧ cs.length ≤ i)
      ⟨none, none, rfl, d4.trans d5, Held.keep d5 hk4, [], ⟨[], Held.keep d5 hf4, .nil⟩, fun _ z => (nomatch z), Nat.le_refl _⟩ ?_ ?_
    · rintro i σ H3 hi ⟨y5, y6, rfl, d6, hk, cs, hcs, va, lc⟩
      refine ⟨.ref b, rfl, .int files, rfl, .ref kl, rfl, .ref b, rfl, 10, 30, rfl, rfl, ⟨by decide, by decide, by decide⟩, by show 4 ≤ sizeLine; decide, fun ml nml => ?_⟩
      have d7 := d6.trans (Draw.of d6.g (Same.laid (o := .lst [V.int 4, V.int 4, V.int 4, V.int ((10 : Int) ^ (30 : Int).toNat)]) nml))
      have hk7 := Held.same (b := b) (Same.laid (o := .lst [V.int 4, V.int 4, V.int 4, V.int ((10 : Int) ^ (30 : Int).toNat)]) nml) hk
      have hc7 := hcs.keep (SameS.of (Same.but (L := b) (Same.laid (o := .lst [V.int 4, V.int 4, V.int 4, V.int ((10 : Int) ^ (30 : Int).toNat)]) nml)))
      refine ⟨b, c, ml, cells, _, rfl, Held.of (new_ne d6.g nml) upd_same, by show 0 < 4; decide, by show 4 < 1000; decide, d7.g, fun x H4 hx d8 => ?_⟩
      obtain ⟨most, rfl, m0, m1⟩ : ∃ most : Int, x = .int most ∧ 0 < most ∧ most < 2 ^ 200 := by
        simp only [List.mem_cons, List.not_mem_nil, or_false] at hx
        rcases hx with rfl | rfl | rfl | rfl
        · exact ⟨4, rfl, by decide, by decide⟩
        · exact ⟨4, rfl, by decide, by decide⟩
        · exact ⟨4, rfl, by decide, by decide⟩
        · exact ⟨(10 : Int) ^ (30 : Int).toNat, rfl, by decide +kernel, by decide +kernel⟩
      refine ⟨b, c, kl, cells, files, most, rfl, Held.keep d8 hk7, f2, f1, m0, m1, d8.g, fun cal H5 tc v d9 htc => ?_⟩
      have d10 := (d7.trans d8).trans d9
      have hk10 := Held.keep d9 (Held.keep d8 hk7)
      have hc10 := (hc7.keep (SameS.of d8.s)).keep (SameS.of d9.s)
      refine ⟨.ref tc, rfl, .ref fl, rfl, encC cal, cs.map encC, dp_C htc.to, dp_Cs (hc10.keep (SameS.of but_same)), shaped_C cal, shaped_Cs cs, _, rfl, ite2 (fun e => ?_) (fun e => ⟨_, _, rfl, d10, hk10, cs, hc10, va, by omega⟩)⟩
      obtain ⟨ts, h1, h2⟩ := hc10
      have lts : ts.length = cs.length := Paired.length h2
      refine ⟨.ref fl, rfl, .inl ⟨rfl, _, SqL.of (but_same _ _ h1)⟩, .ref tc, rfl, fl, _, _, rfl, rfl, but_same _ _ h1, by rw [List.length_map, sizeLine_eq]; omega, ?_⟩
      refine ⟨_, _, rfl, d10.upd g n0, ?_, cs ++ [cal], ⟨ts ++ [tc], ?_, ?_⟩, ?_, ?_⟩
      · refine Held.of nkb ?_
        rw [upd_ne nkf]
        exact hk10.to
      · rw [but_ne nfb, upd_same, List.map_append]
        rfl
      · rw [but_upd_ne nfb]
        have nt : ∀ {t : Addr} {xs : List V}, but b H5 t = some (.tup xs) → t ≠ fl := fun e z => by
          rw [z, h1] at e
          cases e
        refine Paired.snoc (pair_imp h2 fun t c e => ?_) ?_
        · rw [upd_ne (nt e)]
          exact e
        · rw [upd_ne (nt htc)]
          exact htc
      · intro c2 hc2
        rcases List.mem_append.mp hc2 with h | h
        · exact va c2 h
        · rw [List.mem_singleton.mp h]
          exact v
      · rw [List.length_append, List.length_singleton]
        omega
    · rintro σ H3 ⟨y5, y6, rfl, d6, hk, cs, hcs, va, lc⟩
      refine ⟨.int files, rfl, .int rows, rfl, .ref fl, rfl, by show 3 ≤ sizeLine; decide, fun p np => ?_⟩
      have sp := Same.laid (o := .tup [V.int files, V.int rows, V.ref fl]) np
      exact q _ p fl cs files rows (d6.trans (Draw.of d6.g sp)) ok va (by omega) (hcs.keep (SameS.of (Same.but sp))) upd_same
end
end Pup

set_option Elab.async false
set_option linter.all false
set_option maxRecDepth 100000
set_option maxHeartbeats 4000000
namespace Pup
open PySem PySem.Spec PyProof.Rows L2
section
variable {P : Program} {w : World} {K : PySem.W.Frag} {mg : Str → Option Value} {base : Heap}

def rEq2 (K : PySem.W.Frag) : R2 := fun x y H Q => rEqI x y H Q ∨ rEqD K x y H Q
theorem op_eq2 {X : Cx} (hu : X.A.units + 64 < cLine) : OpR X (compareOp .Eq) (rEq2 X.K) := by
  intro pins s σ H x y v u Q I rx ry h
  rcases h with h | h
  · exact op_eqI (by omega) pins s σ H x y v u Q I rx ry h
  · exact op_eqD hu pins s σ H x y v u Q I rx ry h
theorem op_notInDK {X : Cx} {K : PySem.W.Frag} (h : X.K = K) (hu : X.A.units + 65 < cLine) : OpR X (compareOp .NotIn) (rNotInD K) := by
  subst h
  exact op_notInD hu

/-! alike -/
def sp_l_alike : Sp := fun vs H Q _ => ∃ a b : Addr, vs = [.ref a, .ref b] ∧ ((∃ m, H a = some (dI m) ∧ H b = some (dI m) ∧ OkD m) ∨ ∃ ns, H a = some (.lst (vi ns)) ∧ H b = some (.lst (vi ns)) ∧ OkL ns) ∧ Q (.bl true) H
theorem dp_L {K : PySem.W.Frag} {H : Hp} {l : Addr} {a : List Int} (h : H l = some (.lst (vi a))) : Dp K H (.ref l) (encL a) := .lst (SqL.of h) (dp_ints a)
theorem ok_l_alike (T : Txt K mg) : FnG P w K mg base 1 T.f_l_alike T.d_l_alike ps_l_alike sp_l_alike := by
  refine Fun_okG T.F_l_alike sc_l_alike (fun vs H Q E h => ?_) (fun cdv A outer s H vs Q hgd hr h => ?_)
  · obtain ⟨a, b, rfl, _⟩ := h
    rfl
  · obtain ⟨a, b, rfl, h, q⟩ := h
    refine ⟨_, (pss_one (ps_ret (pe_and (pe_cmpR (op_eq2 hr.units) (pv 0) (pv 1) (nomark _)) (pe_one (pe_cmpR op_eq (pe_callB (call_reprI hgd hr.units) (by rfl) T.n_repr (by decide +kernel) (pa_cons (pv 0) pa_nil)) (pe_callB (call_reprI hgd hr.units) (by rfl) T.n_repr (by decide +kernel) (pa_cons (pv 1) pa_nil)) (nomark _)))))), ?_⟩
    rcases h with ⟨m, ha, hb, ok⟩ | ⟨ns, ha, hb, ok⟩
    · refine ⟨.ref a, rfl, .ref b, rfl, .inl ⟨a, b, m, rfl, rfl, ha, hb, true, rfl, iteT ?_⟩⟩
      refine ⟨.ref a, rfl, a, rfl, .inl ⟨m, ha, ok, .ref b, rfl, b, rfl, .inl ⟨m, hb, ok, rfl, ?_⟩⟩⟩
      rw [decide_eq_true rfl]
      exact q
    · refine ⟨.ref a, rfl, .ref b, rfl, .inr ⟨_, _, dp_L ha, dp_L hb, shaped_L ns, shaped_L ns, ?_⟩⟩
      rw [eqv_same (shaped_L ns)]
      refine ⟨true, rfl, iteT ?_⟩
      refine ⟨.ref a, rfl, a, rfl, .inr ⟨ns, SqL.of ha, ok, .ref b, rfl, b, rfl, .inr ⟨ns, SqL.of hb, ok, rfl, ?_⟩⟩⟩
      rw [decide_eq_true rfl]
      exact q
end
end Pup

set_option linter.all false
set_option maxRecDepth 100000
namespace Pup
theorem fns_mem {files rows : Nat} {cs : List Cal} {f : List Int → List Int} : f ∈ fns files rows cs ↔ ∃ c ∈ cs, f = fun a => dn a (goals files rows c) := by
  unfold fns mvs
  rw [List.map_map, List.mem_map]
  constructor
  · rintro ⟨c, h, e⟩
    exact ⟨c, h, e.symm⟩
  · rintro ⟨c, h, e⟩
    exact ⟨c, h, e.symm⟩
theorem more_keys {files rows : Nat} (ok : Okl files rows) {cs cs2 : List Cal} (va : ∀ c ∈ cs, Valid files c) (sub : ∀ c ∈ cs2, ∃ c0 ∈ cs, c = undo c0) {m m3 : List (List Int × Nat)}
    (cD : Closed (fns files rows cs) (iota (files * rows)) m) (c3 : Closed (fns files rows (cs ++ cs2)) (iota (files * rows)) m3) : (m.map (·.1)).Perm (m3.map (·.1)) := by
  refine same_keys (good := Arr (files * rows)) cD c3 (closed_arr (mvs_gd ok va) cD) ?_ ?_ ?_
  · intro f hf a b ha hb e
    obtain ⟨c, hc, rfl⟩ := fns_mem.mp hf
    exact dn_inj ha.len hb.len (goals_gd ok (va c hc)) e
  · intro f hf
    obtain ⟨c, hc, rfl⟩ := fns_mem.mp hf
    exact fns_mem.mpr ⟨c, List.mem_append_left _ hc, rfl⟩
  · intro f hf
    obtain ⟨c, hc, rfl⟩ := fns_mem.mp hf
    rcases List.mem_append.mp hc with h | h
    · exact .inl (fns_mem.mpr ⟨c, h, rfl⟩)
    · obtain ⟨c0, h0, rfl⟩ := sub c h
      exact .inr ⟨_, fns_mem.mpr ⟨c0, h0, rfl⟩, fun a ha => dn_undo ha.len (goals_gd ok (va c0 h0)) (goals_gd ok (undo_valid (va c0 h0))) (goals_undo ok (va c0 h0))⟩
theorem more_due {files rows : Nat} (ok : Okl files rows) {cs cs2 : List Cal} (va : ∀ c ∈ cs, Valid files c) (sub : ∀ c ∈ cs2, ∃ c0 ∈ cs, c = undo c0) {m m3 : List (List Int × Nat)}
    (cD : Closed (fns files rows cs) (iota (files * rows)) m) (c3 : Closed (fns files rows (cs ++ cs2)) (iota (files * rows)) m3) : (dueOf m3).map (·.1) = (dueOf m).map (·.1) := by
  rw [due_keys, due_keys, srt_congr (more_keys ok va sub cD c3)]
end Pup

set_option Elab.async false
set_option linter.all false
set_option maxRecDepth 100000
set_option maxHeartbeats 4000000
namespace Pup
open PySem PySem.Spec PyProof.Rows L2
section
variable {P : Program} {w : World} {K : PySem.W.Frag} {mg : Str → Option Value} {base : Heap}

theorem Same.fresh {H H1 : Hp} {p : Addr} {o : HO} (s : L2.Same H H1) (n : H p = none) : L2.Same H (upd H1 p o) := fun b u e => by
  rw [upd_ne (ne_of_none e n)]
  exact s _ _ e
theorem keys_tups {H H' : Hp} {m : List (List Int × Int)} {bs : List Addr} (h : IsKeys H (m.map fun p => (p.1.map (Sum.inl : Int → L2.Key), V.int p.2)) bs) (k : ∀ b o, H b = some o → H' b = some o) :
    Paired (fun t a => H' t = some (.tup (vi a))) bs (m.map (·.1)) := by
  induction m generalizing bs with
  | nil =>
    cases h
    exact .nil
  | cons p m ih =>
    have h' : IsKeys H ((p.1.map Sum.inl, V.int p.2) :: m.map fun p => (p.1.map (Sum.inl : Int → L2.Key), V.int p.2)) bs := h
    cases h' with
    | cons r t =>
      refine .cons ?_ (ih t)
      have r' := k _ _ r
      rw [vi_key] at r'
      exact r'
def sp_law (K : PySem.W.Frag) : Sp := fun vs H Q _ => ∃ (a : Addr) (ns : List Int), vs = [.ref a] ∧ SqL K H a (vi ns) ∧ ∀ H', Q (.bl true) H'
theorem ok_law (T : Txt K mg) : FnG P w K mg base 7 T.f_law T.d_law ps_law (sp_law K) := by
  refine Fun_okG T.F_law sc_law (fun vs H Q E h => ?_) (fun cdv A outer s H vs Q hgd hr h => ?_)
  · obtain ⟨a, ns, rfl, _⟩ := h
    rfl
  · obtain ⟨a, ns, rfl, hs, q⟩ := h
    have hu := hu_of hr
    refine ⟨_, (pss_cons (ps_set (i := 1) sc_law.nd rfl (.inl rfl) (pe_call (ok_l_bag T) (hr.mono (by decide)) (by rfl) T.g_l_bag T.F_l_bag.kp T.b_l_bag .nil pass0 (pa_cons (pv 0) pa_nil)))
      (pss_cons (ps_for PassesOwn.never rfl (pi_range1 (by rfl) T.n_range (pa_cons pe_int pa_nil)) (pg_name (i := 2) sc_law.nd rfl (.inl rfl))
      (pss_cons (ps_asg (pe_call (ok_l_small T) (hr.mono (by decide)) (by rfl) T.g_l_small T.F_l_small.kp T.b_l_small .nil pass0 (pa_cons (pv 1) pa_nil)) (pg_tup rfl (pgs_cons (pg_name (i := 3) sc_law.nd rfl (.inl rfl)) (pgs_cons (pg_name (i := 4) sc_law.nd rfl (.inl rfl)) (pgs_cons (pg_name (i := 5) sc_law.nd rfl (.inr rfl)) pgs_nil)))))
      (pss_cons (ps_set (i := 6) sc_law.nd rfl (.inr rfl) (pe_call (ok_l_reached T) (hr.mono (by decide)) (by rfl) T.g_l_reached T.F_l_reached.kp T.b_l_reached .nil pass0 (pa_cons (pv 3) (pa_cons (pv 4) (pa_cons (pv 5) pa_nil)))))
      (pss_cons (ps_set (i := 7) sc_law.nd rfl (.inl rfl) (pe_callTy (call_dictT rfl hr.units) (by rfl) T.n_dict (by decide +kernel) (pa_cons (pe_lc (own := [("_law_one_here", 13)]) (g := gName 13) (tt := tYes) (by rfl) sc_law.nd (pi_list (pe_callB (call_sortD rfl hr.units) (by rfl) T.n_sorted (by decide +kernel) (pa_cons (pv 6) pa_nil))) (blkOk_by (own := [("_law_one_here", 13)]) (N := N_law) (sc := defScope st_law) (by decide +kernel)) (fun _ _ _ _ _ => pg_name (i := 13) sc_law.nd rfl (Or.inl rfl)) (fun _ _ _ _ _ => pts_nil) (fun _ _ _ _ _ => (pe_tup (pa_cons (pv 13) (pa_cons (pe_callB (call_lenK (K := K) rfl) (by rfl) T.n_len (by decide +kernel) (pa_cons (pe_dget hu (pv 6) (pv 13) (fun _ _ => rfl)) pa_nil)) pa_nil))))) pa_nil)))
      (pss_cons (ps_set (i := 8) sc_law.nd rfl (.inr rfl) (pe_callTy (call_listVals rfl) (by rfl) T.n_list (by decide +kernel) (pa_cons (pe_bm0 PySem.F.plainAttrs_dict PySem.F.slot_dict_values PySem.F.type_dict_values mt_valsT (pv 7)) pa_nil)))
      (Evl.pss_cut (ps_for PassesOwn.never rfl (pi_range1 (by rfl) T.n_range (pa_cons pe_int pa_nil)) (pg_name (i := 9) sc_law.nd rfl (.inl rfl))
      (pss_cons (ps_par (i := 10) (j := 11) rfl sc_law.nd rfl rfl (by decide) rfl rfl (pa_cons (pe_call (ok_bounds T) (hr.mono (by decide)) (by rfl) T.g_bounds T.F_bounds.kp T.b_bounds .nil pass0 (pa_cons (pv 3) (pa_cons (pv 4) (pa_cons (pv 5) pa_nil)))) (pa_cons (pe_call (ok_levels T) (hr.mono (by decide)) (by rfl) T.g_levels T.F_levels.kp T.b_levels .nil pass0 (pa_cons (pv 3) (pa_cons (pv 4) (pa_cons (pv 5) pa_nil)))) pa_nil)) (by rfl))
      (pss_cons (ps_if (PW.pt (pw_or (pt_not (pt_val (pe_callG hgd (ok_l_alike T) (hr.mono (by decide)) (by rfl) T.g_l_alike T.F_l_alike.kp T.b_l_alike (pa_cons (pv 10) (pa_cons (pv 7) pa_nil))))) (pw_or1 (pt_cmpR op_isnot_bl (pe_call (ok_is_bound T) (hr.mono (by decide)) (by rfl) T.g_is_bound T.F_is_bound.kp T.b_is_bound .nil pass0 (pa_cons (pv 3) (pa_cons (pv 4) (pa_cons (pv 5) (pa_cons (pv 10) pa_nil))))) pe_bl (nomark _))))) (pss_one (ps_ret pe_bl)) pss_nil)
      (pss_cons (ps_if (pt_not (pt_val (pe_callG hgd (ok_l_alike T) (hr.mono (by decide)) (by rfl) T.g_l_alike T.F_l_alike.kp T.b_l_alike (pa_cons (pv 11) (pa_cons (pe_lc (own := [("_law_many", 14)]) (g := gName 14) (tt := tYes) (by rfl) sc_law.nd (pi_range1 (by rfl) T.n_range (pa_cons (pe_op op_add (pe_callB (cr_max rfl) (by rfl) T.n_max (by decide +kernel) (pa_cons (pv 8) pa_nil)) pe_int) pa_nil)) (blkOk_by (own := [("_law_many", 14)]) (N := N_law) (sc := defScope st_law) (by decide +kernel)) (fun _ _ _ _ _ => pg_name (i := 14) sc_law.nd rfl (Or.inl rfl)) (fun _ _ _ _ _ => pts_nil) (fun _ _ _ _ _ => (pe_bmK (K := K) rfl PySem.F.plainAttrs_list PySem.F.slot_list_count PySem.F.type_list_count (mt_lcountK (K := K) rfl) (pv 8) (pa_cons (pv 14) pa_nil)))) pa_nil))))) (pss_one (ps_ret pe_bl)) pss_nil)
      (pss_cons (ps_expr (pe_bm0 PySem.F.plainAttrs_dict PySem.F.slot_dict_clear PySem.F.type_dict_clear mt_clearT (pv 10)))
      (pss_one (ps_expr (pe_bm PySem.F.plainAttrs_list PySem.F.slot_list_append PySem.F.type_list_append mt_append (pv 11) (pa_cons pe_int pa_nil)))))))))
      (pss_cons (ps_if (pt_cmpR op_ne (pe_op op_mod (pe_callTy call_int1 (by rfl) T.n_int (by decide +kernel) (pa_cons (pe_ix ix_list (pe_lst (pa_cons pe_int (pa_cons pe_int (pa_cons pe_int (pa_cons pe_int (pa_cons pe_int (pa_cons pe_int (pa_cons pe_int pa_nil)))))))) (pe_op op_mul (pv 3) (pv 4)) (fun _ _ => rfl)) pa_nil)) (pe_callB call_len_dT (by rfl) T.n_len (by decide +kernel) (pa_cons (pv 7) pa_nil))) pe_int (nomark _)) (pss_one (ps_ret pe_bl)) pss_nil)
      (pss_cons (ps_set (i := 12) sc_law.nd rfl (.inl rfl) (pe_op op_cat (pv 5) (pe_lc (own := [("_law_call_here", 15)]) (g := gName 15) (by rfl) sc_law.nd (pi_list (pe_call (ok_l_undo T) (hr.mono (by decide)) (by rfl) T.g_l_undo T.F_l_undo.kp T.b_l_undo .nil pass0 (pa_cons (pv 5) pa_nil))) (blkOk_by (own := [("_law_call_here", 15)]) (N := N_law) (sc := defScope st_law) (by decide +kernel)) (fun _ _ _ _ _ => pg_name (i := 15) sc_law.nd rfl (Or.inl rfl)) (fun _ _ _ _ _ => (pts_one (pt_cmpR (op_notInDK (K := K) rfl (u65 hr)) (pv 15) (pv 5) (by rfl)))) (fun _ _ _ _ _ => (pv 15)))))
      (pss_one (ps_if (PW.pt (pw_and (pt_cmpR op_lt (pe_callB call_len_seq (by rfl) T.n_len (by decide +kernel) (pa_cons (pv 12) pa_nil)) pe_int (nomark _)) (pw_and1 (pt_cmpR (op_neD hr.units) (pe_callTy (call_list_dT rfl) (by rfl) T.n_list (by decide +kernel) (pa_cons (pe_call (ok_bounds T) (hr.mono (by decide)) (by rfl) T.g_bounds T.F_bounds.kp T.b_bounds .nil pass0 (pa_cons (pv 3) (pa_cons (pv 4) (pa_cons (pv 12) pa_nil)))) pa_nil)) (pe_callTy (call_list_dT rfl) (by rfl) T.n_list (by decide +kernel) (pa_cons (pv 7) pa_nil)) (nomark _))))) (pss_one (ps_ret pe_bl)) pss_nil))))))))))
      (pss_one (ps_ret pe_bl)))), ?_⟩
    refine ⟨.ref a, rfl, a, ns, rfl, hs, fun H1 b c cells _ _ g1 => ?_⟩
    refine ⟨2, rfl, by decide, by decide, ?_⟩
    refine for_range (fun i σ H => ∃ (y2 y3 y4 y5 y6 y7 y8 y9 y10 y11 y12 y13 y14 y15 : Option V), σ = [some (.ref a), some (.ref b), y2, y3, y4, y5, y6, y7, y8, y9, y10, y11, y12, y13, y14, y15] ∧ Bag H b c cells)
      ⟨_, _, _, _, _, _, _, _, _, _, _, _, _, _, rfl, g1⟩ ?_ (fun σ H2 h2 => ?_)
    · rintro i σ H2 hi ⟨y2, y3, y4, y5, y6, y7, y8, y9, y10, y11, y12, y13, y14, y15, rfl, g2⟩
      refine ⟨.ref b, rfl, b, c, cells, rfl, g2, fun H3 tp fl cs files rows d3 ok va few hcl0 htp => ?_⟩
      refine ⟨tp, _, rfl, SqT.of htp, rfl, _, _, rfl, _, _, rfl, _, _, rfl, rfl, ?_⟩
      have g3 := d3.g
      have hcl := hcl0.keep (SameS.of but_same)
      clear hcl0 htp d3 g2
      obtain ⟨f0, f1, r0, r1, six, npos⟩ := okl_lt ok
      have gd := mvs_gd ok va
      have few2 : cs.length ≤ 1000 := by omega
      -- the table
      refine ⟨.int files, rfl, .int rows, rfl, .ref fl, rfl, fl, cs, files, rows, rfl, hcl, ok, va, few2, fun H4 D m s4 nD fD cD => ?_⟩
      have mle : m.length ≤ 720 := Nat.le_trans (closed_len gd cD) (fact_le six)
      have car := closed_arr gd cD
      have ld := due_len m
      have g4 := g3.keep s4
      have hcl4 := hcl.keep (SameS.of s4)
      obtain ⟨kvs, k1, k2⟩ := fD
      -- due
      refine ⟨.ref D, rfl, D, kvs, m.map (·.1), rfl, k1, found_keys k2, fun k hk => ?_, fun p cs2 np e1 e2 => ?_⟩
      · intro z
        have := (car k hk).len
        rw [z] at this
        have : (0 : Nat) = files * rows := this
        omega
      · have s5 := Same.laid (o := .lst (cs2.map fun c => V.ref c.1)) np
        have g5 := g4.keep s5
        have hcl5 := hcl4.keep (SameS.of s5)
        have k15 := s5 _ _ k1
        have pk := pair_imp k2 fun _ _ e => e.keep (SameS.of s5)
        have e2' : ∀ c ∈ cs2, upd H4 p (.lst (cs2.map fun c => V.ref c.1)) c.1 = some (.tup (vi c.2)) := fun c hc => s5 _ _ (e2 c hc)
        have hp : upd H4 p (.lst (cs2.map fun c => V.ref c.1)) p = some (.lst (cs2.map fun c => V.ref c.1)) := upd_same
        generalize upd H4 p (.lst (cs2.map fun c => V.ref c.1)) = HL at g5 hcl5 k15 pk e2' hp ⊢
        clear s5
        have ls : cs2.length = m.length := by
          have := congrArg List.length e1
          rw [List.length_map, (srt_perm _).length_eq, List.length_map] at this
          exact this
        refine ⟨p, rfl, ⟨_, SqL.of hp⟩, fun z nz => ?_⟩
        refine lc_list (xs := cs2.map fun c => V.ref c.1) (fun i H5 => L2.Same HL H5 ∧ ∃ rw5 : List Row, H5 z = some (.lst (rw5.map fun r => V.ref r.t)) ∧ (∀ r ∈ rw5, r.Ok H5) ∧ rw5.map (fun r => (r.k, r.v)) = ((dueOf m).take i).map (fun p => (p.1.map (Sum.inl : Int → L2.Key), V.int p.2)))
          ⟨Same.laid nz, [], upd_same, fun _ z => (nomatch z), rfl⟩ (fun i H5 _ p => SqL.of (p.1 _ _ hp)) ?_ ?_
        · rintro i x H5 hx ⟨s6, rw5, hz, ro, re⟩
          have hlt : i < cs2.length := by
            have := (List.getElem?_eq_some_iff.mp hx).1
            rw [List.length_map] at this
            exact this
          have ex : x = .ref cs2[i].1 := by
            rw [List.getElem?_map, List.getElem?_eq_getElem hlt] at hx
            exact (Option.some.inj hx).symm
          subst ex
          have hki : cs2[i].2 ∈ m.map (·.1) := by
            refine (srt_perm _).mem_iff.mp ?_
            rw [← e1]
            exact List.mem_map.mpr ⟨_, List.getElem_mem hlt, rfl⟩
          obtain ⟨⟨a1, d⟩, hb1, hb2⟩ := List.mem_map.mp hki
          obtain rfl : a1 = cs2[i].2 := hb2
          obtain ⟨l, xs, v1, v2, v3⟩ := val_in pk cD.nd hb1
          have hck : H5 cs2[i].1 = some (.tup ((cs2[i].2.map Sum.inl).map kV)) := by
            rw [vi_key]
            exact s6 _ _ (e2' _ (List.getElem_mem hlt))
          have lrw : rw5.length ≤ i := by
            have := congrArg List.length re
            rw [List.length_map, List.length_map, List.length_take] at this
            omega
          refine ⟨rfl, .ref cs2[i].1, rfl, .ref D, rfl, .ref cs2[i].1, rfl, D, .ref l, rfl, ?_, l, xs, rfl, .inl (SqL.of (s6 _ _ v2)), by show 2 ≤ sizeLine; decide, fun t nt => ?_⟩
          · rw [← v1]
            exact DGet.t (s6 _ _ k15) hck
          have s7 := Same.laid (o := .tup [V.ref cs2[i].1, V.int (xs.length : Nat)]) nt
          have hz7 := s7 _ _ hz
          refine ⟨_, hz7, by rw [List.length_map, sizeLine_eq]; omega, Same.fresh (s6.trans s7) nz, rw5 ++ [⟨t, cs2[i].1, cs2[i].2.map Sum.inl, V.int (xs.length : Nat)⟩], ?_, ?_, ?_⟩
          · rw [upd_same, List.map_append]
            rfl
          · intro r hr2
            have ko : ∀ {a : Addr} {us : List V}, upd H5 t (.tup [V.ref cs2[i].1, V.int (xs.length : Nat)]) a = some (.tup us) → ∀ o, upd (upd H5 t (.tup [V.ref cs2[i].1, V.int (xs.length : Nat)])) z o a = some (.tup us) := fun {a us} e o => by
              rw [upd_ne (ne_of e hz7 (fun w => HO.noConfusion w))]
              exact e
            rcases List.mem_append.mp hr2 with h | h
            · obtain ⟨o1, o2⟩ := ro r h
              exact ⟨ko (s7 _ _ o1) _, ko (s7 _ _ o2) _⟩
            · rw [List.mem_singleton.mp h]
              exact ⟨ko upd_same _, ko (s7 _ _ hck) _⟩
          · have hd : (dueOf m)[i]? = some (cs2[i].2, (d : Int)) := by
              unfold dueOf
              rw [← e1, List.getElem?_map, List.getElem?_map, List.getElem?_eq_getElem hlt]
              show some (cs2[i].2, (look m cs2[i].2 : Int)) = _
              rw [look_mem cD.nd hb1]
            rw [List.map_append, re, List.take_succ, hd, List.map_append, v3]
            rfl
        · rintro H5 ⟨s6, rw5, hz, ro, re⟩
          have full : (dueOf m).take (cs2.map fun c => V.ref c.1).length = dueOf m := List.take_of_length_le (by rw [List.length_map, ld]; omega)
          rw [full] at re
          have ek : rw5.map (·.k) = (dueOf m).map (fun p => p.1.map (Sum.inl : Int → L2.Key)) := by
            have := congrArg (List.map (·.1)) re
            rw [List.map_map, List.map_map] at this
            exact this
          refine ⟨z, rw5, rfl, SqL.of hz, ro, ?_, fun u nu => ?_⟩
          · rw [ek]
            have nd := due_nodup cD.nd
            rw [List.nodup_iff_pairwise_ne, List.pairwise_map] at nd ⊢
            exact nd.imp fun h e => h (inl_inj e)
          rw [re]
          have g6 := (g5.keep s6).keep (Same.laid (o := dI (dueOf m)) nu)
          have hcl6 := (hcl5.keep (SameS.of s6)).keep (SameS.of (Same.laid (o := dI (dueOf m)) nu))
          have hu6 : upd H5 u (dI (dueOf m)) u = some (dI (dueOf m)) := upd_same
          change upd H5 u (dI (dueOf m)) u = some (dI (dueOf m)) at hu6
          obtain ⟨H6, hH6⟩ : ∃ H6, H6 = upd H5 u (dI (dueOf m)) := ⟨_, rfl⟩
          have eu : upd H5 u (.dT ((dueOf m).map (fun p => (p.1.map (Sum.inl : Int → L2.Key), V.int p.2)))) = H6 := hH6.symm
          rw [eu]
          rw [← hH6] at g6 hcl6 hu6
          clear eu hH6 ro re ek hz s6
          -- the numbers
          refine ⟨.ref u, rfl, .inr (.inr (.inl ⟨rfl, .inr ⟨_, hu6⟩⟩)), u, _, rfl, rfl, hu6, fun vw nvw => ⟨vw, u, _, rfl, upd_same, Same.laid nvw _ _ hu6, fun nl nnl => ?_⟩⟩
          have s7 := (Same.laid (o := valsO vw u) nvw).trans (Same.laid (o := .lst ((((dueOf m).map (fun p => (p.1.map (Sum.inl : Int → L2.Key), V.int p.2)))).map (·.2))) nnl)
          have evi : (((dueOf m).map (fun p => (p.1.map (Sum.inl : Int → L2.Key), V.int p.2)))).map (·.2) = vi ((dueOf m).map (·.2)) := by
            unfold vi
            rw [List.map_map, List.map_map]
            rfl
          rw [evi] at s7 ⊢
          have g7 := g6.keep s7
          have hcl7 := hcl6.keep (SameS.of s7)
          have hu7 := s7 _ _ hu6
          have hn7 : upd (upd H6 vw (valsO vw u)) nl (.lst (vi ((dueOf m).map (·.2)))) nl = some (.lst (vi ((dueOf m).map (·.2)))) := upd_same
          generalize upd (upd H6 vw (valsO vw u)) nl (.lst (vi ((dueOf m).map (·.2)))) = H7 at g7 hcl7 hu7 hn7 ⊢
          clear s7 g6 hcl6 hu6
          have pn : ((dueOf m).map (·.2)).Perm (nums m) := due_nums cD.nd
          have nlen : (nums m).length = m.length := by
            unfold nums
            rw [List.length_map]
          have mpos : 0 < m.length := List.length_pos_of_mem cD.st
          -- again
          refine ⟨fun σ H8 => ∃ (y2 y9 y10 y11 y12 y13 y14 y15 : Option V), σ = [some (.ref a), some (.ref b), y2, some (.int files), some (.int rows), some (.ref fl), some (.ref D), some (.ref u), some (.ref nl), y9, y10, y11, y12, y13, y14, y15] ∧ L2.Same H7 H8, ?_, ?_⟩
          · refine ⟨2, rfl, by decide, by decide, ?_⟩
            refine for_range (fun j σ H8 => ∃ (y2 y9 y10 y11 y12 y13 y14 y15 : Option V), σ = [some (.ref a), some (.ref b), y2, some (.int files), some (.int rows), some (.ref fl), some (.ref D), some (.ref u), some (.ref nl), y9, y10, y11, y12, y13, y14, y15] ∧ L2.Same H7 H8)
              ⟨_, _, _, _, _, _, _, _, rfl, Same.refl _⟩ ?_ (fun σ H8 h8 => h8)
            rintro j σ H8 hj ⟨y2, y9, y10, y11, y12, y13, y14, y15, rfl, s8⟩
            refine ⟨.int files, rfl, .int rows, rfl, .ref fl, rfl, fl, cs, files, rows, rfl, hcl7.keep (SameS.of s8), ok, va, few2, fun H9 fd m1 s9 nfd c1 hfd => ?_⟩
            have s79 := s8.trans s9
            refine ⟨.int files, rfl, .int rows, rfl, .ref fl, rfl, fl, cs, files, rows, rfl, hcl7.keep (SameS.of s79), ok, va, few2, fun H10 td m2 x2 s10 ntd c2 hx2 htd => ?_⟩
            refine ⟨_, _, rfl, ?_⟩
            have s710 := s79.trans s10
            have edue : dueOf m1 = dueOf m := due_congr c1.nd (c1.perm cD)
            have hfd10 := s10 _ _ hfd
            have nfd7 : H7 fd = none := s8.free nfd
            have ntd7 : H7 td = none := s79.free ntd
            refine ⟨.ref fd, rfl, .ref u, rfl, fd, u, rfl, .inl ⟨dueOf m, by rw [← edue]; exact hfd10, s710 _ _ hu7, due_ok cD mle six car⟩, true, rfl, iteF ?_⟩
            refine ⟨.int files, rfl, .int rows, rfl, .ref fl, rfl, .ref fd, rfl, fl, fd, cs, files, rows, m1, rfl, hcl7.keep (SameS.of s710), ok, va, few2, hfd10, c1, fun H11 s11 => ⟨true, true, rfl, rfl, _, rfl, iteF ?_⟩⟩
            have s711 := s710.trans s11
            have hn11 := s711 _ _ hn7
            -- the tally
            refine ⟨.ref td, rfl, .ref nl, rfl, nl, _, rfl, SqL.of hn11, by rw [List.length_map, ld]; exact mpos, fun mx h1 h2 => ?_⟩
            have imx : IsMax ((dueOf m).map (·.2)) mx := ⟨h1, h2⟩
            have imn : IsMax (nums m) mx := ⟨pn.mem_iff.mp h1, fun y hy => h2 y (pn.mem_iff.mpr hy)⟩
            obtain ⟨z0, z1⟩ := nums_ok cD imn.1
            refine ⟨mx, 1, rfl, rfl, mx + 1, rfl, by omega, by omega, fun pl npl => ?_⟩
            refine lc_range (lo := 0) (n := (mx + 1).toNat) (fun i H12 => L2.Same H11 H12 ∧ H12 pl = some (.lst (vi ((tally ((dueOf m).map (·.2)) mx).take i)))) ⟨Same.laid npl, upd_same⟩ ?_ ?_
            · rintro i H12 hi12 ⟨s12, hpl⟩
              refine ⟨rfl, .ref nl, rfl, .inl ⟨rfl, _, SqL.of (s12 _ _ hn11)⟩, .int (0 + i), rfl, nl, _, 0 + i, rfl, rfl, SqL.of (s12 _ _ hn11), _, hpl, ?_, Same.fresh s12 npl, ?_⟩
              · unfold vi
                rw [List.length_map, List.length_take, sizeLine_eq]
                omega
              · have ta : (tally ((dueOf m).map (·.2)) mx)[i]? = some ((((dueOf m).map (·.2)).count (i : Int) : Nat) : Int) := by
                  unfold tally
                  rw [List.getElem?_map, List.getElem?_range hi12]
                  rfl
                rw [upd_same, vi_snoc, List.take_succ, ta, Int.zero_add]
                rfl
            · rintro H12 ⟨s12, hpl⟩
              have fullt : (tally ((dueOf m).map (·.2)) mx).take (mx + 1).toNat = tally ((dueOf m).map (·.2)) mx := List.take_of_length_le (by unfold tally; rw [List.length_map, List.length_range]; exact Nat.le_refl _)
              rw [fullt] at hpl
              have pm2 : (nums m2).Perm (nums m) := (c2.perm cD).map _
              have et : tally (nums m2) x2 = tally ((dueOf m).map (·.2)) mx := tally_congr (pm2.trans pn.symm) hx2 imx
              have et2 : tally ((dueOf m).map (·.2)) mx = tally (nums m) mx := tally_congr pn imx imn
              have htd12 := s12 _ _ (s11 _ _ htd)
              rw [et] at htd12
              refine ⟨td, pl, rfl, .inr ⟨_, htd12, hpl, by rw [et2]; exact tally_ok cD mle imn⟩, true, rfl, iteF ?_⟩
              have hfd12 := s12 _ _ (s11 _ _ hfd10)
              refine ⟨.ref fd, rfl, .inr (.inr (.inl ⟨rfl, .inr ⟨_, hfd12⟩⟩)), fd, _, rfl, rfl, hfd12, ?_⟩
              have ntf : td ≠ fd := fun z => by
                rw [z, hfd12] at htd12
                cases htd12
              have htd13 : upd H12 fd (.dT []) td = some (.lst (vi (tally ((dueOf m).map (·.2)) mx))) := by
                rw [upd_ne ntf]
                exact htd12
              refine ⟨.ref td, rfl, .inl ⟨rfl, _, SqL.of htd13⟩, td, _, _, rfl, rfl, htd13, ?_, _, _, _, _, _, _, _, _, rfl, Same.fresh (Same.fresh (s711.trans s12) nfd7) ntd7⟩
              unfold vi tally
              rw [List.length_map, List.length_map, List.length_range, sizeLine_eq]
              omega
          · rintro σ H8 ⟨y2, y9, y10, y11, y12, y13, y14, y15, rfl, s8⟩
            -- by the group's order
            refine ⟨by show 7 ≤ sizeLine; decide, fun l7 nl7 => ?_⟩
            have s9 := s8.trans (Same.laid (o := .lst [V.int 1, V.int 1, V.int 2, V.int 6, V.int 24, V.int 120, V.int 720]) nl7)
            have h79 : upd H8 l7 (.lst [V.int 1, V.int 1, V.int 2, V.int 6, V.int 24, V.int 120, V.int 720]) l7 = some (.lst [V.int 1, V.int 1, V.int 2, V.int 6, V.int 24, V.int 120, V.int 720]) := upd_same
            generalize upd H8 l7 (.lst [V.int 1, V.int 1, V.int 2, V.int 6, V.int 24, V.int 120, V.int 720]) = H9 at s9 h79 ⊢
            have en : (files : Int) * rows = ((files * rows : Nat) : Int) := (Int.natCast_mul files rows).symm
            have f7 : [V.int 1, V.int 1, V.int 2, V.int 6, V.int 24, V.int 120, V.int 720][files * rows]? = some (.int (fact (files * rows) : Nat)) := by
              have : files * rows = 1 ∨ files * rows = 2 ∨ files * rows = 3 ∨ files * rows = 4 ∨ files * rows = 5 ∨ files * rows = 6 := by omega
              rcases this with h | h | h | h | h | h <;> rw [h] <;> rfl
            have a7 : atI [V.int 1, V.int 1, V.int 2, V.int 6, V.int 24, V.int 120, V.int 720] ((files : Int) * rows) = some (.int (fact (files * rows) : Nat)) := by
              rw [en]
              exact atI_nat f7
            refine ⟨.int files, rfl, .int rows, rfl, files, rows, rfl, rfl, .inl ⟨by omega, by omega⟩, l7, _, _, _, rfl, rfl, SqL.of h79, a7, .inl ⟨_, rfl, .ref u, rfl, u, _, rfl, s9 _ _ hu7, _, _, rfl, rfl, ?_, rfl, _, rfl, iteNS ?_ ?_⟩⟩
            · show (0 : Int) < (((dueOf m).map (fun p => (p.1.map (Sum.inl : Int → L2.Key), V.int p.2))).length : Nat)
              rw [List.length_map, ld]
              omega
            · refine congrArg V.int ?_
              show ((fact (files * rows) : Nat) : Int) % (((dueOf m).map (fun p => (p.1.map (Sum.inl : Int → L2.Key), V.int p.2))).length : Nat) = 0
              rw [List.length_map, ld]
              have := closed_dvd gd cD
              omega
            -- more
            have hcl9 := hcl7.keep (SameS.of s9)
            refine ⟨.ref fl, rfl, .ref fl, rfl, fl, cs, rfl, hcl9, few2, fun H10 un s10 nun hun => ?_⟩
            have s710 := s9.trans s10
            obtain ⟨us, hus, pus⟩ := hun
            have lus : us.length = cs.length := by
              rw [Paired.length pus, List.length_map, List.length_reverse]
            have hcl10 := hcl7.keep (SameS.of s710)
            refine ⟨un, rfl, ⟨_, SqL.of hus⟩, fun ad nad => ?_⟩
            refine lc_list (xs := us.map V.ref) (fun i H11 => L2.Same H10 H11 ∧ ∃ cs3, CallsAt H11 ad cs3 ∧ (∀ c ∈ cs3, ∃ c0 ∈ cs, c = undo c0) ∧ cs3.length ≤ i) ⟨Same.laid nad, [], ⟨[], upd_same, .nil⟩, fun _ z => (nomatch z), Nat.le_refl _⟩ (fun i H11 _ p => SqL.of (p.1 _ _ hus)) ?_ ?_
            · rintro i x H11 hx ⟨s11, cs3, hc3, u3, l3⟩
              have hiu : i < us.length := by
                have := (List.getElem?_eq_some_iff.mp hx).1
                rw [List.length_map] at this
                exact this
              have hiu2 : i < (cs.reverse.map undo).length := by
                rw [← Paired.length pus]
                exact hiu
              obtain ⟨t, ht, htc⟩ := paired_at pus hiu2
              have ex : x = .ref t := Option.some.inj (hx.symm.trans (refs_get ht))
              subst ex
              have htc11 := s11 _ _ htc
              refine ⟨rfl, .ref t, rfl, .ref fl, rfl, encC _, cs.map encC, dp_C htc11, dp_Cs (hcl10.keep (SameS.of s11)), shaped_C _, shaped_Cs cs, _, rfl, ite2 (fun e => ?_) (fun e => ⟨s11, cs3, hc3, u3, by omega⟩)⟩
              obtain ⟨ts3, h31, h32⟩ := hc3
              have l32 : ts3.length = cs3.length := Paired.length h32
              refine ⟨.ref t, rfl, _, h31, by rw [List.length_map, sizeLine_eq]; omega, Same.fresh s11 nad, cs3 ++ [(cs.reverse.map undo)[i]], ⟨ts3 ++ [t], ?_, ?_⟩, ?_, ?_⟩
              · rw [upd_same, List.map_append]
                rfl
              · have nt : ∀ {t : Addr} {xs : List V}, H11 t = some (.tup xs) → t ≠ ad := fun e z => by
                  rw [z, h31] at e
                  cases e
                refine Paired.snoc (pair_imp h32 fun t c e => ?_) ?_
                · rw [upd_ne (nt e)]
                  exact e
                · rw [upd_ne (nt htc11)]
                  exact htc11
              · intro c2 hc2
                rcases List.mem_append.mp hc2 with h | h
                · exact u3 c2 h
                · rw [List.mem_singleton.mp h]
                  obtain ⟨c0, h0, e0⟩ := List.mem_map.mp (List.getElem_mem hiu2)
                  exact ⟨c0, List.mem_reverse.mp h0, e0.symm⟩
              · rw [List.length_append, List.length_singleton]
                omega
            · rintro H11 ⟨s11, cs3, hc3, u3, l3⟩
              rw [List.length_map] at l3
              have hcl11 := hcl10.keep (SameS.of s11)
              obtain ⟨ts1, h11, h12⟩ := id hcl11
              obtain ⟨ts3, h31, h32⟩ := id hc3
              have l12 : ts1.length = cs.length := Paired.length h12
              have l32 : ts3.length = cs3.length := Paired.length h32
              refine ⟨fl, ad, _, _, rfl, rfl, h11, h31, by rw [List.length_map, List.length_map, sizeLine_eq]; omega, fun mr nmr => ?_⟩
              have s12 := Same.laid (o := .lst (ts1.map V.ref ++ ts3.map V.ref)) nmr
              have hmr : CallsAt (upd H11 mr (.lst (ts1.map V.ref ++ ts3.map V.ref))) mr (cs ++ cs3) := by
                refine ⟨ts1 ++ ts3, ?_, paired_app (pair_imp h12 fun _ _ e => s12 _ _ e) (pair_imp h32 fun _ _ e => s12 _ _ e)⟩
                rw [upd_same, List.map_append]
              have s712 := (s710.trans s11).trans s12
              generalize upd H11 mr (.lst (ts1.map V.ref ++ ts3.map V.ref)) = H12 at hmr s712 ⊢
              have va3 : ∀ c ∈ cs ++ cs3, Valid files c := fun c hc => by
                rcases List.mem_append.mp hc with h | h
                · exact va c h
                · obtain ⟨c0, h0, rfl⟩ := u3 c h
                  exact undo_valid (va c0 h0)
              have few3 : (cs ++ cs3).length ≤ 1000 := by
                rw [List.length_append]
                omega
              obtain ⟨us4, h41, _⟩ := id hmr
              refine ⟨.ref mr, rfl, mr, _, rfl, .inl (SqL.of h41), _, _, rfl, rfl, _, rfl, ite2 (fun e => ?_) (fun e => ?_)⟩
              · refine ⟨.int files, rfl, .int rows, rfl, .ref mr, rfl, mr, cs ++ cs3, files, rows, rfl, hmr, ok, va3, few3, fun H13 bd m3 s13 nbd c3 hbd => ?_⟩
                refine ⟨bd, _, rfl, .inl hbd, fun q1 bs1 nq1 ik1 => ?_⟩
                have s14 := Same.laid (o := .lst (bs1.map V.ref)) nq1
                have s714 := (s712.trans s13).trans s14
                refine ⟨.ref u, rfl, u, _, rfl, .inl (s714 _ _ hu7), fun q2 bs2 nq2 ik2 => ?_⟩
                have s15 := Same.laid (o := .lst (bs2.map V.ref)) nq2
                have t1 : TupsAt (upd (upd H13 q1 (.lst (bs1.map V.ref))) q2 (.lst (bs2.map V.ref))) q1 ((dueOf m3).map (·.1)) := ⟨bs1, s15 _ _ upd_same, keys_tups ik1 fun _ _ e => s15 _ _ (s14 _ _ e)⟩
                have t2 : TupsAt (upd (upd H13 q1 (.lst (bs1.map V.ref))) q2 (.lst (bs2.map V.ref))) q2 ((dueOf m).map (·.1)) := ⟨bs2, upd_same, keys_tups ik2 fun _ _ e => s15 _ _ e⟩
                rw [more_due ok va u3 cD c3] at t1
                refine ⟨_, _, dp_Ts t1, dp_Ts t2, shaped_Ts _, shaped_Ts _, _, rfl, ?_⟩
                rw [eqv_same (shaped_Ts _)]
                exact iteF ⟨_, _, _, _, _, _, _, _, _, _, _, _, _, _, rfl, g7.keep (s714.trans s15)⟩
              · exact ⟨_, _, _, _, _, _, _, _, _, _, _, _, _, _, rfl, g7.keep s712⟩
    · obtain ⟨_, _, _, _, _, _, _, _, _, _, _, _, _, _, rfl, _⟩ := h2
      exact q _
end
end Pup

set_option Elab.async false
set_option linter.all false
set_option maxRecDepth 100000
set_option maxHeartbeats 4000000
namespace Pup
open PySem PySem.Spec PyProof.Rows L2
theorem all_mk {l : PySem.W.OpenLaw} {w : World} {K : PySem.W.Frag} {h : Heap} {mg : Str → Option Value} {fa f1 f2 f3 f4 f5 f6 f7 f8 f9 f10 f11 f12 f13 f14 f15 f16 f17 f18 f19 f20 f21 f22 f23 f24 f25 f26 f27 : Addr} (X : K.In h) (G : h.Ns mainGlobals mg) (hfa : mg "law" = some (.ref fa))
    {od1 an1 od2 an2 od3 an3 od4 an4 od5 an5 od6 an6 od7 an7 od8 an8 od9 an9 od10 an10 od11 an11 od12 an12 od13 an13 od14 an14 od15 an15 od16 an16 od17 an17 od18 an18 od19 an19 od20 an20 od21 an21 od22 an22 od23 an23 od24 an24 od25 an25 od26 an26 od27 an27 : Option Addr} {sl1 sl2 sl3 sl4 sl5 sl6 sl7 sl8 sl9 sl10 sl11 sl12 sl13 sl14 sl15 sl16 sl17 sl18 sl19 sl20 sl21 sl22 sl23 sl24 sl25 sl26 sl27 : Array (Option Value)} {oc1 kV1 dc1 pm1 cd1 ct1 oc2 kV2 dc2 pm2 cd2 ct2 oc3 kV3 dc3 pm3 cd3 ct3 oc4 kV4 dc4 pm4 cd4 ct4 oc5 kV5 dc5 pm5 cd5 ct5 oc6 kV6 dc6 pm6 cd6 ct6 oc7 kV7 dc7 pm7 cd7 ct7 oc8 kV8 dc8 pm8 cd8 ct8 oc9 kV9 dc9 pm9 cd9 ct9 oc10 kV10 dc10 pm10 cd10 ct10 oc11 kV11 dc11 pm11 cd11 ct11 oc12 kV12 dc12 pm12 cd12 ct12 oc13 kV13 dc13 pm13 cd13 ct13 oc14 kV14 dc14 pm14 cd14 ct14 oc15 kV15 dc15 pm15 cd15 ct15 oc16 kV16 dc16 pm16 cd16 ct16 oc17 kV17 dc17 pm17 cd17 ct17 oc18 kV18 dc18 pm18 cd18 ct18 oc19 kV19 dc19 pm19 cd19 ct19 oc20 kV20 dc20 pm20 cd20 ct20 oc21 kV21 dc21 pm21 cd21 ct21 oc22 kV22 dc22 pm22 cd22 ct22 oc23 kV23 dc23 pm23 cd23 ct23 oc24 kV24 dc24 pm24 cd24 ct24 oc25 kV25 dc25 pm25 cd25 ct25 oc26 kV26 dc26 pm26 cd26 ct26 oc27 kV27 dc27 pm27 cd27 ct27 : Value}
    (a1 : PySem.W.nsIn K mainGlobals "is_integer" = some (some (.ref f1))) (l1 : K.lookup f1 = some ⟨oc1, od1, .func (PySem.W.fnOf "is_integer" "is_integer" (defArgs st_is_integer) (defBody st_is_integer) (defScope st_is_integer) .none kV1 dc1 pm1 an1 cd1 ct1), sl1⟩) (c1 : PySem.W.codeIn K cd1 "is_integer" = true) (k1 : PySem.W.keepIn K (.ref f1) = true)
    (a2 : PySem.W.nsIn K mainGlobals "is_index" = some (some (.ref f2))) (l2 : K.lookup f2 = some ⟨oc2, od2, .func (PySem.W.fnOf "is_index" "is_index" (defArgs st_is_index) (defBody st_is_index) (defScope st_is_index) .none kV2 dc2 pm2 an2 cd2 ct2), sl2⟩) (c2 : PySem.W.codeIn K cd2 "is_index" = true) (k2 : PySem.W.keepIn K (.ref f2) = true)
    (a3 : PySem.W.nsIn K mainGlobals "on_wheel" = some (some (.ref f3))) (l3 : K.lookup f3 = some ⟨oc3, od3, .func (PySem.W.fnOf "on_wheel" "on_wheel" (defArgs st_on_wheel) (defBody st_on_wheel) (defScope st_on_wheel) .none kV3 dc3 pm3 an3 cd3 ct3), sl3⟩) (c3 : PySem.W.codeIn K cd3 "on_wheel" = true) (k3 : PySem.W.keepIn K (.ref f3) = true)
    (a4 : PySem.W.nsIn K mainGlobals "on_open" = some (some (.ref f4))) (l4 : K.lookup f4 = some ⟨oc4, od4, .func (PySem.W.fnOf "on_open" "on_open" (defArgs st_on_open) (defBody st_on_open) (defScope st_on_open) .none kV4 dc4 pm4 an4 cd4 ct4), sl4⟩) (c4 : PySem.W.codeIn K cd4 "on_open" = true) (k4 : PySem.W.keepIn K (.ref f4) = true)
    (a5 : PySem.W.nsIn K mainGlobals "moved_by" = some (some (.ref f5))) (l5 : K.lookup f5 = some ⟨oc5, od5, .func (PySem.W.fnOf "moved_by" "moved_by" (defArgs st_moved_by) (defBody st_moved_by) (defScope st_moved_by) .none kV5 dc5 pm5 an5 cd5 ct5), sl5⟩) (c5 : PySem.W.codeIn K cd5 "moved_by" = true) (k5 : PySem.W.keepIn K (.ref f5) = true)
    (a6 : PySem.W.nsIn K mainGlobals "number_of" = some (some (.ref f6))) (l6 : K.lookup f6 = some ⟨oc6, od6, .func (PySem.W.fnOf "number_of" "number_of" (defArgs st_number_of) (defBody st_number_of) (defScope st_number_of) .none kV6 dc6 pm6 an6 cd6 ct6), sl6⟩) (c6 : PySem.W.codeIn K cd6 "number_of" = true) (k6 : PySem.W.keepIn K (.ref f6) = true)
    (a7 : PySem.W.nsIn K mainGlobals "place_of" = some (some (.ref f7))) (l7 : K.lookup f7 = some ⟨oc7, od7, .func (PySem.W.fnOf "place_of" "place_of" (defArgs st_place_of) (defBody st_place_of) (defScope st_place_of) .none kV7 dc7 pm7 an7 cd7 ct7), sl7⟩) (c7 : PySem.W.codeIn K cd7 "place_of" = true) (k7 : PySem.W.keepIn K (.ref f7) = true)
    (a8 : PySem.W.nsIn K mainGlobals "goals_of" = some (some (.ref f8))) (l8 : K.lookup f8 = some ⟨oc8, od8, .func (PySem.W.fnOf "goals_of" "goals_of" (defArgs st_goals_of) (defBody st_goals_of) (defScope st_goals_of) .none kV8 dc8 pm8 an8 cd8 ct8), sl8⟩) (c8 : PySem.W.codeIn K cd8 "goals_of" = true) (k8 : PySem.W.keepIn K (.ref f8) = true)
    (a9 : PySem.W.nsIn K mainGlobals "done" = some (some (.ref f9))) (l9 : K.lookup f9 = some ⟨oc9, od9, .func (PySem.W.fnOf "done" "done" (defArgs st_done) (defBody st_done) (defScope st_done) .none kV9 dc9 pm9 an9 cd9 ct9), sl9⟩) (c9 : PySem.W.codeIn K cd9 "done" = true) (k9 : PySem.W.keepIn K (.ref f9) = true)
    (a10 : PySem.W.nsIn K mainGlobals "is_arrangement" = some (some (.ref f10))) (l10 : K.lookup f10 = some ⟨oc10, od10, .func (PySem.W.fnOf "is_arrangement" "is_arrangement" (defArgs st_is_arrangement) (defBody st_is_arrangement) (defScope st_is_arrangement) .none kV10 dc10 pm10 an10 cd10 ct10), sl10⟩) (c10 : PySem.W.codeIn K cd10 "is_arrangement" = true) (k10 : PySem.W.keepIn K (.ref f10) = true)
    (a11 : PySem.W.nsIn K mainGlobals "reached" = some (some (.ref f11))) (l11 : K.lookup f11 = some ⟨oc11, od11, .func (PySem.W.fnOf "reached" "reached" (defArgs st_reached) (defBody st_reached) (defScope st_reached) .none kV11 dc11 pm11 an11 cd11 ct11), sl11⟩) (c11 : PySem.W.codeIn K cd11 "reached" = true) (k11 : PySem.W.keepIn K (.ref f11) = true)
    (a12 : PySem.W.nsIn K mainGlobals "levels" = some (some (.ref f12))) (l12 : K.lookup f12 = some ⟨oc12, od12, .func (PySem.W.fnOf "levels" "levels" (defArgs st_levels) (defBody st_levels) (defScope st_levels) .none kV12 dc12 pm12 an12 cd12 ct12), sl12⟩) (c12 : PySem.W.codeIn K cd12 "levels" = true) (k12 : PySem.W.keepIn K (.ref f12) = true)
    (a13 : PySem.W.nsIn K mainGlobals "bounds" = some (some (.ref f13))) (l13 : K.lookup f13 = some ⟨oc13, od13, .func (PySem.W.fnOf "bounds" "bounds" (defArgs st_bounds) (defBody st_bounds) (defScope st_bounds) .none kV13 dc13 pm13 an13 cd13 ct13), sl13⟩) (c13 : PySem.W.codeIn K cd13 "bounds" = true) (k13 : PySem.W.keepIn K (.ref f13) = true)
    (a14 : PySem.W.nsIn K mainGlobals "is_bound" = some (some (.ref f14))) (l14 : K.lookup f14 = some ⟨oc14, od14, .func (PySem.W.fnOf "is_bound" "is_bound" (defArgs st_is_bound) (defBody st_is_bound) (defScope st_is_bound) .none kV14 dc14 pm14 an14 cd14 ct14), sl14⟩) (c14 : PySem.W.codeIn K cd14 "is_bound" = true) (k14 : PySem.W.keepIn K (.ref f14) = true)
    (a15 : PySem.W.nsIn K mainGlobals "_law_bag" = some (some (.ref f15))) (l15 : K.lookup f15 = some ⟨oc15, od15, .func (PySem.W.fnOf "_law_bag" "_law_bag" (defArgs st_l_bag) (defBody st_l_bag) (defScope st_l_bag) .none kV15 dc15 pm15 an15 cd15 ct15), sl15⟩) (c15 : PySem.W.codeIn K cd15 "_law_bag" = true) (k15 : PySem.W.keepIn K (.ref f15) = true)
    (a16 : PySem.W.nsIn K mainGlobals "_law_take" = some (some (.ref f16))) (l16 : K.lookup f16 = some ⟨oc16, od16, .func (PySem.W.fnOf "_law_take" "_law_take" (defArgs st_l_take) (defBody st_l_take) (defScope st_l_take) .none kV16 dc16 pm16 an16 cd16 ct16), sl16⟩) (c16 : PySem.W.codeIn K cd16 "_law_take" = true) (k16 : PySem.W.keepIn K (.ref f16) = true)
    (a17 : PySem.W.nsIn K mainGlobals "_law_one" = some (some (.ref f17))) (l17 : K.lookup f17 = some ⟨oc17, od17, .func (PySem.W.fnOf "_law_one" "_law_one" (defArgs st_l_one) (defBody st_l_one) (defScope st_l_one) .none kV17 dc17 pm17 an17 cd17 ct17), sl17⟩) (c17 : PySem.W.codeIn K cd17 "_law_one" = true) (k17 : PySem.W.keepIn K (.ref f17) = true)
    (a18 : PySem.W.nsIn K mainGlobals "_law_mixed" = some (some (.ref f18))) (l18 : K.lookup f18 = some ⟨oc18, od18, .func (PySem.W.fnOf "_law_mixed" "_law_mixed" (defArgs st_l_mixed) (defBody st_l_mixed) (defScope st_l_mixed) .none kV18 dc18 pm18 an18 cd18 ct18), sl18⟩) (c18 : PySem.W.codeIn K cd18 "_law_mixed" = true) (k18 : PySem.W.keepIn K (.ref f18) = true)
    (a19 : PySem.W.nsIn K mainGlobals "_law_alike" = some (some (.ref f19))) (l19 : K.lookup f19 = some ⟨oc19, od19, .func (PySem.W.fnOf "_law_alike" "_law_alike" (defArgs st_l_alike) (defBody st_l_alike) (defScope st_l_alike) .none kV19 dc19 pm19 an19 cd19 ct19), sl19⟩) (c19 : PySem.W.codeIn K cd19 "_law_alike" = true) (k19 : PySem.W.keepIn K (.ref f19) = true)
    (a20 : PySem.W.nsIn K mainGlobals "_law_call" = some (some (.ref f20))) (l20 : K.lookup f20 = some ⟨oc20, od20, .func (PySem.W.fnOf "_law_call" "_law_call" (defArgs st_l_call) (defBody st_l_call) (defScope st_l_call) .none kV20 dc20 pm20 an20 cd20 ct20), sl20⟩) (c20 : PySem.W.codeIn K cd20 "_law_call" = true) (k20 : PySem.W.keepIn K (.ref f20) = true)
    (a21 : PySem.W.nsIn K mainGlobals "_law_open" = some (some (.ref f21))) (l21 : K.lookup f21 = some ⟨oc21, od21, .func (PySem.W.fnOf "_law_open" "_law_open" (defArgs st_l_open) (defBody st_l_open) (defScope st_l_open) .none kV21 dc21 pm21 an21 cd21 ct21), sl21⟩) (c21 : PySem.W.codeIn K cd21 "_law_open" = true) (k21 : PySem.W.keepIn K (.ref f21) = true)
    (a22 : PySem.W.nsIn K mainGlobals "_law_goes" = some (some (.ref f22))) (l22 : K.lookup f22 = some ⟨oc22, od22, .func (PySem.W.fnOf "_law_goes" "_law_goes" (defArgs st_l_goes) (defBody st_l_goes) (defScope st_l_goes) .none kV22 dc22 pm22 an22 cd22 ct22), sl22⟩) (c22 : PySem.W.codeIn K cd22 "_law_goes" = true) (k22 : PySem.W.keepIn K (.ref f22) = true)
    (a23 : PySem.W.nsIn K mainGlobals "_law_undo" = some (some (.ref f23))) (l23 : K.lookup f23 = some ⟨oc23, od23, .func (PySem.W.fnOf "_law_undo" "_law_undo" (defArgs st_l_undo) (defBody st_l_undo) (defScope st_l_undo) .none kV23 dc23 pm23 an23 cd23 ct23), sl23⟩) (c23 : PySem.W.codeIn K cd23 "_law_undo" = true) (k23 : PySem.W.keepIn K (.ref f23) = true)
    (a24 : PySem.W.nsIn K mainGlobals "_law_small" = some (some (.ref f24))) (l24 : K.lookup f24 = some ⟨oc24, od24, .func (PySem.W.fnOf "_law_small" "_law_small" (defArgs st_l_small) (defBody st_l_small) (defScope st_l_small) .none kV24 dc24 pm24 an24 cd24 ct24), sl24⟩) (c24 : PySem.W.codeIn K cd24 "_law_small" = true) (k24 : PySem.W.keepIn K (.ref f24) = true)
    (a25 : PySem.W.nsIn K mainGlobals "_law_done" = some (some (.ref f25))) (l25 : K.lookup f25 = some ⟨oc25, od25, .func (PySem.W.fnOf "_law_done" "_law_done" (defArgs st_l_done) (defBody st_l_done) (defScope st_l_done) .none kV25 dc25 pm25 an25 cd25 ct25), sl25⟩) (c25 : PySem.W.codeIn K cd25 "_law_done" = true) (k25 : PySem.W.keepIn K (.ref f25) = true)
    (a26 : PySem.W.nsIn K mainGlobals "_law_reached" = some (some (.ref f26))) (l26 : K.lookup f26 = some ⟨oc26, od26, .func (PySem.W.fnOf "_law_reached" "_law_reached" (defArgs st_l_reached) (defBody st_l_reached) (defScope st_l_reached) .none kV26 dc26 pm26 an26 cd26 ct26), sl26⟩) (c26 : PySem.W.codeIn K cd26 "_law_reached" = true) (k26 : PySem.W.keepIn K (.ref f26) = true)
    (a27 : PySem.W.nsIn K mainGlobals "law" = some (some (.ref f27))) (l27 : K.lookup f27 = some ⟨oc27, od27, .func (PySem.W.fnOf "law" "law" (defArgs st_law) (defBody st_law) (defScope st_law) .none kV27 dc27 pm27 an27 cd27 ct27), sl27⟩) (c27 : PySem.W.codeIn K cd27 "law" = true) (k27 : PySem.W.keepIn K (.ref f27) = true)
    (z1 : PySem.W.nsIn K mainGlobals "isinstance" = some none) (z2 : PySem.W.nsIn K mainGlobals "int" = some none) (z3 : PySem.W.nsIn K mainGlobals "bool" = some none) (z4 : PySem.W.nsIn K mainGlobals "tuple" = some none) (z5 : PySem.W.nsIn K mainGlobals "len" = some none) (z6 : PySem.W.nsIn K mainGlobals "all" = some none) (z7 : PySem.W.nsIn K mainGlobals "set" = some none) (z8 : PySem.W.nsIn K mainGlobals "range" = some none) (z9 : PySem.W.nsIn K mainGlobals "list" = some none) (z10 : PySem.W.nsIn K mainGlobals "enumerate" = some none) (z11 : PySem.W.nsIn K mainGlobals "dict" = some none) (z12 : PySem.W.nsIn K mainGlobals "sorted" = some none) (z13 : PySem.W.nsIn K mainGlobals "max" = some none) (z14 : PySem.W.nsIn K mainGlobals "abs" = some none) (z15 : PySem.W.nsIn K mainGlobals "repr" = some none) :
    ∃ fd : FuncData, (∀ (s : Shared) (v : Value), BindsTo s fd ⟨[v], []⟩ [("_law_script", v)]) ∧ ∀ base : Heap, K.In base → base.Ns mainGlobals mg → FnG l.prog w K mg base 7 fa fd ["_law_script"] (sp_law K) := by
  have e := hfa.symm.trans (PySem.W.mg_of X G a27)
  cases e
  have F1 := fun_mk (st := st_is_integer) l1 c1 k1
  have b1 := F1.binds (ps := ps_is_integer) fun _ _ _ _ _ _ us hl => match us, hl with | [_], _ => rfl
  have F2 := fun_mk (st := st_is_index) l2 c2 k2
  have b2 := F2.binds (ps := ps_is_index) fun _ _ _ _ _ _ us hl => match us, hl with | [_, _], _ => rfl
  have F3 := fun_mk (st := st_on_wheel) l3 c3 k3
  have b3 := F3.binds (ps := ps_on_wheel) fun _ _ _ _ _ _ us hl => match us, hl with | [_, _, _], _ => rfl
  have F4 := fun_mk (st := st_on_open) l4 c4 k4
  have b4 := F4.binds (ps := ps_on_open) fun _ _ _ _ _ _ us hl => match us, hl with | [_, _, _, _], _ => rfl
  have F5 := fun_mk (st := st_moved_by) l5 c5 k5
  have b5 := F5.binds (ps := ps_moved_by) fun _ _ _ _ _ _ us hl => match us, hl with | [_, _, _, _], _ => rfl
  have F6 := fun_mk (st := st_number_of) l6 c6 k6
  have b6 := F6.binds (ps := ps_number_of) fun _ _ _ _ _ _ us hl => match us, hl with | [_, _], _ => rfl
  have F7 := fun_mk (st := st_place_of) l7 c7 k7
  have b7 := F7.binds (ps := ps_place_of) fun _ _ _ _ _ _ us hl => match us, hl with | [_, _], _ => rfl
  have F8 := fun_mk (st := st_goals_of) l8 c8 k8
  have b8 := F8.binds (ps := ps_goals_of) fun _ _ _ _ _ _ us hl => match us, hl with | [_, _, _], _ => rfl
  have F9 := fun_mk (st := st_done) l9 c9 k9
  have b9 := F9.binds (ps := ps_done) fun _ _ _ _ _ _ us hl => match us, hl with | [_, _], _ => rfl
  have F10 := fun_mk (st := st_is_arrangement) l10 c10 k10
  have b10 := F10.binds (ps := ps_is_arrangement) fun _ _ _ _ _ _ us hl => match us, hl with | [_, _], _ => rfl
  have F11 := fun_mk (st := st_reached) l11 c11 k11
  have b11 := F11.binds (ps := ps_reached) fun _ _ _ _ _ _ us hl => match us, hl with | [_, _, _], _ => rfl
  have F12 := fun_mk (st := st_levels) l12 c12 k12
  have b12 := F12.binds (ps := ps_levels) fun _ _ _ _ _ _ us hl => match us, hl with | [_, _, _], _ => rfl
  have F13 := fun_mk (st := st_bounds) l13 c13 k13
  have b13 := F13.binds (ps := ps_bounds) fun _ _ _ _ _ _ us hl => match us, hl with | [_, _, _], _ => rfl
  have F14 := fun_mk (st := st_is_bound) l14 c14 k14
  have b14 := F14.binds (ps := ps_is_bound) fun _ _ _ _ _ _ us hl => match us, hl with | [_, _, _, _], _ => rfl
  have F15 := fun_mk (st := st_l_bag) l15 c15 k15
  have b15 := F15.binds (ps := ps_l_bag) fun _ _ _ _ _ _ us hl => match us, hl with | [_], _ => rfl
  have F16 := fun_mk (st := st_l_take) l16 c16 k16
  have b16 := F16.binds (ps := ps_l_take) fun _ _ _ _ _ _ us hl => match us, hl with | [_, _], _ => rfl
  have F17 := fun_mk (st := st_l_one) l17 c17 k17
  have b17 := F17.binds (ps := ps_l_one) fun _ _ _ _ _ _ us hl => match us, hl with | [_, _], _ => rfl
  have F18 := fun_mk (st := st_l_mixed) l18 c18 k18
  have b18 := F18.binds (ps := ps_l_mixed) fun _ _ _ _ _ _ us hl => match us, hl with | [_, _], _ => rfl
  have F19 := fun_mk (st := st_l_alike) l19 c19 k19
  have b19 := F19.binds (ps := ps_l_alike) fun _ _ _ _ _ _ us hl => match us, hl with | [_, _], _ => rfl
  have F20 := fun_mk (st := st_l_call) l20 c20 k20
  have b20 := F20.binds (ps := ps_l_call) fun _ _ _ _ _ _ us hl => match us, hl with | [_, _, _, _], _ => rfl
  have F21 := fun_mk (st := st_l_open) l21 c21 k21
  have b21 := F21.binds (ps := ps_l_open) fun _ _ _ _ _ _ us hl => match us, hl with | [_, _, _, _], _ => rfl
  have F22 := fun_mk (st := st_l_goes) l22 c22 k22
  have b22 := F22.binds (ps := ps_l_goes) fun _ _ _ _ _ _ us hl => match us, hl with | [_, _, _, _], _ => rfl
  have F23 := fun_mk (st := st_l_undo) l23 c23 k23
  have b23 := F23.binds (ps := ps_l_undo) fun _ _ _ _ _ _ us hl => match us, hl with | [_], _ => rfl
  have F24 := fun_mk (st := st_l_small) l24 c24 k24
  have b24 := F24.binds (ps := ps_l_small) fun _ _ _ _ _ _ us hl => match us, hl with | [_], _ => rfl
  have F25 := fun_mk (st := st_l_done) l25 c25 k25
  have b25 := F25.binds (ps := ps_l_done) fun _ _ _ _ _ _ us hl => match us, hl with | [_, _, _, _], _ => rfl
  have F26 := fun_mk (st := st_l_reached) l26 c26 k26
  have b26 := F26.binds (ps := ps_l_reached) fun _ _ _ _ _ _ us hl => match us, hl with | [_, _, _], _ => rfl
  have F27 := fun_mk (st := st_law) l27 c27 k27
  have b27 := F27.binds (ps := ps_law) fun _ _ _ _ _ _ us hl => match us, hl with | [_], _ => rfl
  exact ⟨PySem.W.fnOf "law" "law" (defArgs st_law) (defBody st_law) (defScope st_law) .none kV27 dc27 pm27 an27 cd27 ct27, fun s v => .of_eq rfl, fun base _ _ => ok_law (P := l.prog) (w := w) (base := base) { f_is_integer := f1, d_is_integer := _, F_is_integer := F1, g_is_integer := PySem.W.mg_of X G a1, b_is_integer := b1, f_is_index := f2, d_is_index := _, F_is_index := F2, g_is_index := PySem.W.mg_of X G a2, b_is_index := b2, f_on_wheel := f3, d_on_wheel := _, F_on_wheel := F3, g_on_wheel := PySem.W.mg_of X G a3, b_on_wheel := b3, f_on_open := f4, d_on_open := _, F_on_open := F4, g_on_open := PySem.W.mg_of X G a4, b_on_open := b4, f_moved_by := f5, d_moved_by := _, F_moved_by := F5, g_moved_by := PySem.W.mg_of X G a5, b_moved_by := b5, f_number_of := f6, d_number_of := _, F_number_of := F6, g_number_of := PySem.W.mg_of X G a6, b_number_of := b6, f_place_of := f7, d_place_of := _, F_place_of := F7, g_place_of := PySem.W.mg_of X G a7, b_place_of := b7, f_goals_of := f8, d_goals_of := _, F_goals_of := F8, g_goals_of := PySem.W.mg_of X G a8, b_goals_of := b8, f_done := f9, d_done := _, F_done := F9, g_done := PySem.W.mg_of X G a9, b_done := b9, f_is_arrangement := f10, d_is_arrangement := _, F_is_arrangement := F10, g_is_arrangement := PySem.W.mg_of X G a10, b_is_arrangement := b10, f_reached := f11, d_reached := _, F_reached := F11, g_reached := PySem.W.mg_of X G a11, b_reached := b11, f_levels := f12, d_levels := _, F_levels := F12, g_levels := PySem.W.mg_of X G a12, b_levels := b12, f_bounds := f13, d_bounds := _, F_bounds := F13, g_bounds := PySem.W.mg_of X G a13, b_bounds := b13, f_is_bound := f14, d_is_bound := _, F_is_bound := F14, g_is_bound := PySem.W.mg_of X G a14, b_is_bound := b14, f_l_bag := f15, d_l_bag := _, F_l_bag := F15, g_l_bag := PySem.W.mg_of X G a15, b_l_bag := b15, f_l_take := f16, d_l_take := _, F_l_take := F16, g_l_take := PySem.W.mg_of X G a16, b_l_take := b16, f_l_one := f17, d_l_one := _, F_l_one := F17, g_l_one := PySem.W.mg_of X G a17, b_l_one := b17, f_l_mixed := f18, d_l_mixed := _, F_l_mixed := F18, g_l_mixed := PySem.W.mg_of X G a18, b_l_mixed := b18, f_l_alike := f19, d_l_alike := _, F_l_alike := F19, g_l_alike := PySem.W.mg_of X G a19, b_l_alike := b19, f_l_call := f20, d_l_call := _, F_l_call := F20, g_l_call := PySem.W.mg_of X G a20, b_l_call := b20, f_l_open := f21, d_l_open := _, F_l_open := F21, g_l_open := PySem.W.mg_of X G a21, b_l_open := b21, f_l_goes := f22, d_l_goes := _, F_l_goes := F22, g_l_goes := PySem.W.mg_of X G a22, b_l_goes := b22, f_l_undo := f23, d_l_undo := _, F_l_undo := F23, g_l_undo := PySem.W.mg_of X G a23, b_l_undo := b23, f_l_small := f24, d_l_small := _, F_l_small := F24, g_l_small := PySem.W.mg_of X G a24, b_l_small := b24, f_l_done := f25, d_l_done := _, F_l_done := F25, g_l_done := PySem.W.mg_of X G a25, b_l_done := b25, f_l_reached := f26, d_l_reached := _, F_l_reached := F26, g_l_reached := PySem.W.mg_of X G a26, b_l_reached := b26, f_law := fa, d_law := _, F_law := F27, g_law := PySem.W.mg_of X G a27, b_law := b27, n_isinstance := PySem.W.mg_none_of X G z1, n_int := PySem.W.mg_none_of X G z2, n_bool := PySem.W.mg_none_of X G z3, n_tuple := PySem.W.mg_none_of X G z4, n_len := PySem.W.mg_none_of X G z5, n_all := PySem.W.mg_none_of X G z6, n_set := PySem.W.mg_none_of X G z7, n_range := PySem.W.mg_none_of X G z8, n_list := PySem.W.mg_none_of X G z9, n_enumerate := PySem.W.mg_none_of X G z10, n_dict := PySem.W.mg_none_of X G z11, n_sorted := PySem.W.mg_none_of X G z12, n_max := PySem.W.mg_none_of X G z13, n_abs := PySem.W.mg_none_of X G z14, n_repr := PySem.W.mg_none_of X G z15 }⟩
end Pup
open PySem PySem.W PyProof.Rows
set_option maxHeartbeats 0 in
theorem PySem.Challenge.cw_pupilpairs_k88_whole_levels_and_bounds_holds : PySem.Challenge.rw_pupilpairs_k88_whole_levels_and_bounds.Holds := by
  w_on; o_law; k_head; (case hw => w_witness2)
  k_fill
  refine Pup.walk_ofG (l := PySem.Challenge.rw_pupilpairs_k88_whole_levels_and_bounds) (n := 63) (k := 7) (x := "_law_script") (sp := fun w => Pup.sp_law _) rfl (by decide) rfl ⟨rfl, by decide, by decide⟩ (fun w h Y => PySem.W.kIn_of Y) ?F (fun _ _ a ns hl _ _ hS => ⟨a, ns, rfl, hS, fun _ => rfl⟩)
  case F =>
    intro w mg fa h KX G hmg
    refine' Pup.all_mk KX G hmg ?a1 ?l1 ?c1 ?k1 ?a2 ?l2 ?c2 ?k2 ?a3 ?l3 ?c3 ?k3 ?a4 ?l4 ?c4 ?k4 ?a5 ?l5 ?c5 ?k5 ?a6 ?l6 ?c6 ?k6 ?a7 ?l7 ?c7 ?k7 ?a8 ?l8 ?c8 ?k8 ?a9 ?l9 ?c9 ?k9 ?a10 ?l10 ?c10 ?k10 ?a11 ?l11 ?c11 ?k11 ?a12 ?l12 ?c12 ?k12 ?a13 ?l13 ?c13 ?k13 ?a14 ?l14 ?c14 ?k14 ?a15 ?l15 ?c15 ?k15 ?a16 ?l16 ?c16 ?k16 ?a17 ?l17 ?c17 ?k17 ?a18 ?l18 ?c18 ?k18 ?a19 ?l19 ?c19 ?k19 ?a20 ?l20 ?c20 ?k20 ?a21 ?l21 ?c21 ?k21 ?a22 ?l22 ?c22 ?k22 ?a23 ?l23 ?c23 ?k23 ?a24 ?l24 ?c24 ?k24 ?a25 ?l25 ?c25 ?k25 ?a26 ?l26 ?c26 ?k26 ?a27 ?l27 ?c27 ?k27 ?z1 ?z2 ?z3 ?z4 ?z5 ?z6 ?z7 ?z8 ?z9 ?z10 ?z11 ?z12 ?z13 ?z14 ?z15
    (case a1 => k_is); (case l1 => k_is); (case c1 => k_is); (case k1 => k_is); (case a2 => k_is); (case l2 => k_is); (case c2 => k_is); (case k2 => k_is); (case a3 => k_is); (case l3 => k_is); (case c3 => k_is); (case k3 => k_is); (case a4 => k_is); (case l4 => k_is); (case c4 => k_is); (case k4 => k_is); (case a5 => k_is); (case l5 => k_is); (case c5 => k_is); (case k5 => k_is); (case a6 => k_is); (case l6 => k_is); (case c6 => k_is); (case k6 => k_is); (case a7 => k_is); (case l7 => k_is); (case c7 => k_is); (case k7 => k_is); (case a8 => k_is); (case l8 => k_is); (case c8 => k_is); (case k8 => k_is); (case a9 => k_is); (case l9 => k_is); (case c9 => k_is); (case k9 => k_is); (case a10 => k_is); (case l10 => k_is); (case c10 => k_is); (case k10 => k_is); (case a11 => k_is); (case l11 => k_is); (case c11 => k_is); (case k11 => k_is); (case a12 => k_is); (case l12 => k_is); (case c12 => k_is); (case k12 => k_is); (case a13 => k_is); (case l13 => k_is); (case c13 => k_is); (case k13 => k_is); (case a14 => k_is); (case l14 => k_is); (case c14 => k_is); (case k14 => k_is); (case a15 => k_is); (case l15 => k_is); (case c15 => k_is); (case k15 => k_is); (case a16 => k_is); (case l16 => k_is); (case c16 => k_is); (case k16 => k_is); (case a17 => k_is); (case l17 => k_is); (case c17 => k_is); (case k17 => k_is); (case a18 => k_is); (case l18 => k_is); (case c18 => k_is); (case k18 => k_is); (case a19 => k_is); (case l19 => k_is); (case c19 => k_is); (case k19 => k_is); (case a20 => k_is); (case l20 => k_is); (case c20 => k_is); (case k20 => k_is); (case a21 => k_is); (case l21 => k_is); (case c21 => k_is); (case k21 => k_is); (case a22 => k_is); (case l22 => k_is); (case c22 => k_is); (case k22 => k_is); (case a23 => k_is); (case l23 => k_is); (case c23 => k_is); (case k23 => k_is); (case a24 => k_is); (case l24 => k_is); (case c24 => k_is); (case k24 => k_is); (case a25 => k_is); (case l25 => k_is); (case c25 => k_is); (case k25 => k_is); (case a26 => k_is); (case l26 => k_is); (case c26 => k_is); (case k26 => k_is); (case a27 => k_is); (case l27 => k_is); (case c27 => k_is); (case k27 => k_is); (case z1 => k_is); (case z2 => k_is); (case z3 => k_is); (case z4 => k_is); (case z5 => k_is); (case z6 => k_is); (case z7 => k_is); (case z8 => k_is); (case z9 => k_is); (case z10 => k_is); (case z11 => k_is); (case z12 => k_is); (case z13 => k_is); (case z14 => k_is); (case z15 => k_is)

