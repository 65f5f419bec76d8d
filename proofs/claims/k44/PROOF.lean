import PyProof.Rows.All
import Wide.All
import OpenK.AllK
import Wide.FinOn
import HandS.ForMost
import HandS.Walk
import HandS.Conv
import HandS.Words
import HandS.MakeKwOnly
import HandS.Ends
import PyProof.ReprRoads
import PyProof.ReprBulk
import HandS.Dict
import HandS.DictTup
import HandS.Iter
import HandS.TupLen
import HandS.TupAny
import HandS.Zip
import HandS.AnyAll
import HandS.TupLe
import HandS.Wide
import HandS.IsInst
import HandS.Gcd
import HandS.Style
import HandS.Comp
import HandS.GenOver
import HandS.SortOrd
import HandS.SortRule
import PyProof.P3Eq
import KE.KSortTup
import PyProof.Rows.SortKeyStr
import KE.KDictSum
import KE.KDictPairs
import HandS.RaiseMore
import HandS.EndTab
import HandS.HeadWalk
import KE.GoesMore
import KE.GoesZip
import PyProof.ListMulRoad
import PyProof.FactsAll.tuple_2
import HandS.TupMul
import HandS.IterVal
import HandS.Keys
import HandS.Head0
import HandS.Head1
import HandS.Head2
import HandS.Head3
import HandS.HeadEnd
import HandS.HeadHook4
import PySem.Challenge.RW_groupsayings_k44_whole_indexes_in_endles
import HandS.Defaults
import KE.DataCmp
import KE.KIntText
import PyProof.Rows.RegStrFacts
set_option Elab.async false
set_option linter.all false
set_option maxRecDepth 100000
set_option maxHeartbeats 0
set_option exponentiation.threshold 4000
/-! Defs whose callers are no repr of a list or tuple: promise, call, end of a law. -/
namespace GX
open PySem PySem.Spec PyProof.Rows L2

/-- room for k calls, and no repr is under way -/
structure RoomG (k : Nat) (A : Around) : Prop where
  rm : Room k A
  gd : A.guards = some []
theorem RoomG.mono {j k : Nat} {A : Around} (r : RoomG k A) (h : j ≤ k) : RoomG j A := { rm := r.rm.mono h, gd := r.gd }
theorem RoomG.deeper {k : Nat} {A : Around} (r : RoomG (k + 1) A) (env : PySem.Env) : RoomG k (A.deeper env) := { rm := r.rm.deeper env, gd := r.gd }
theorem roomG_top : RoomG 40 callerA := by
  refine { rm := ?_, gd := rfl }
  exact ⟨rfl, by decide, by decide⟩

/-- a def's promise, told of a place with such room -/
structure FnG (P : Program) (w : World) (K : PySem.W.Frag) (mg : Str → Option Value) (base : Heap) (CX : CXT) (k : Nat) (f : Addr) (fd : FuncData) (ps : List Str) (sp : Sp) : Prop where
  len : ∀ vs H Q E, sp vs H Q E → vs.length = ps.length
  run : ∀ {A : Around} {outer : List PySem.Env} {s : Shared} {H : Hp} {args : Args} {us : List Value} {vs : List V} {Q : VK} {E : XK}, RoomG k A → Env0 P w K mg base A outer s H → BindsTo s fd args (ps.zip us) → Vals vs us →
    sp vs H Q E → codeAny (model P w) A (.call (.ref f) args) (CR CX outer P w H s Q E) s
theorem FnG.mono {P : Program} {w : World} {K : PySem.W.Frag} {mg : Str → Option Value} {base : Heap} {CX : CXT} {j k : Nat} {f : Addr} {fd : FuncData} {ps : List Str} {sp : Sp} (F : FnG P w K mg base CX j f fd ps sp) (h : j ≤ k) : FnG P w K mg base CX k f fd ps sp :=
  { len := F.len, run := fun r => F.run (r.mono h) }

section
variable {P : Program} {w : World} {K : PySem.W.Frag} {mg : Str → Option Value} {base : Heap} {CX : CXT} {k : Nat} {f : Addr} {x qual : Str} {st : Stmt} {fd : FuncData} {N ps : List Str} {sp : Sp}
/-- the rule for a def of the text, by its body -/
theorem fn_at (F : Fun K x qual st f fd) (S : FnScope N ps (defScope st)) (len : ∀ vs H Q E, sp vs H Q E → vs.length = ps.length)
    (hbody : ∀ (cdv : Value) (A : Around) (outer : List PySem.Env) (s : Shared) (H : Hp) (vs : List V) (Q : VK) (E : XK), fd.code = cdv → RoomG k (A.deeper (envOfC qual (defScope st) s.heap.objs.size f cdv)) → sp vs H Q E →
      ∃ t, PSs (cxOf CX P w K mg base N qual (defScope st) f cdv A outer s H E) (defBody st) t ∧ t { nx := fun _ H' => Q .non H', rt := Q } (L2.start N vs) H) : FnG P w K mg base CX (k + 1) f fd ps sp := by
  obtain ⟨oc, od, kV, doc, pm, an, cdv, ct, osl, rfl, lk, hcd⟩ := F.ex
  refine { len := len, run := ?_ }
  intro A outer s H args us vs Q E room e0 hb vu hsp
  have hl := len _ _ _ _ hsp
  have back : ∀ b o, base.get? b = some o → s.heap.get? b = some o := fun b o e => (e0.bs b o e).1
  have kin : K.In s.heap := e0.mod.kin.keeps back
  have nolim : s.heap.NoLimit := e0.mod.nolimit.keeps back
  have kinds : ∀ y ∈ ps.zip us, (defScope st).names.lookup y.1 = some .local ∨ ((defScope st).names.lookup y.1 = some .cell ∧ ((cellsFrom (s.heap.objs.size + 1) (defScope st).names []).lookup y.1).isSome = true) := by
    rintro ⟨n, v⟩ hy
    rcases S.par n (List.of_mem_zip hy).1 with q | q
    · exact Or.inl q
    · exact Or.inr (And.intro q (PySem.W.cellsFrom_some _ _ _ (.inl q)))
  have bound := hb
  apply codeAny_call_function room.rm.depth (kin _ _ lk) rfl S.co S.gen rfl (PySem.W.codeRec_of kin hcd)
  refine bound _ _ _ _ ?_
  apply wpAny_newFunctionEnv_cells S.kind kinds
  intro env he s1 x
  subst he
  refine And.intro (nolim.keeps x.toInCall.keep) ?_
  apply codeAny_func
  obtain ⟨t, ht, hq⟩ := hbody cdv A outer s H vs Q E rfl (room.deeper _) hsp
  have J0 := inv_start (CX := CX) (E := E) S room.rm.hd e0 hl vu x
  refine wpAny_mono (ht.run [] s1 (L2.start N vs) H _ J0 hq) ?_ (fun _ _ z => z)
  intro fl s' hs
  cases fl with
  | next =>
    obtain ⟨_, H', J, q⟩ := hs
    exact ⟨V.non, H', J.os, J.bare, J.base, J.hok, rfl, q⟩
  | ret u =>
    obtain ⟨v, _, H', J, rv, q⟩ := hs
    exact ⟨v, H', J.os, J.bare, J.base, J.hok, rv, q⟩
  | brk => exact (hs.elim fun _ z => z.elim fun _ z => (show False from z.2)).elim
  | cont => exact (hs.elim fun _ z => z.elim fun _ z => (show False from z.2)).elim
end

section
variable {X : Cx} {CX : CXT} {k : Nat} {f : Addr} {fd : FuncData} {ps ks : List Str} {sp : Sp} {E : XK} {x : Str} {p pos : Pos} {e : Expr} {es : List Expr} {kws : List Keyword} {t tk : TA} {g : List Value → List Value → List Value} {gV : List V → List V → List V}
theorem back_of {pins : List (Addr × Obj)} {σ : L2.St} {H : Hp} {s : Shared} {Q : VK} (hx : Passes CX X E) (I : Inv X pins σ H s) : ∀ (r : Result) (s' : Shared), CR CX X.stack X.prog X.w H s Q E r s' → wants (EP X pins σ Q) X.xe r s'
  | .error e, s', hq => hx pins σ H s e s' I hq
  | .ok (.ret _), _, hq => I.after hq
  | .ok .next, _, hq => hq.elim
  | .ok .brk, _, hq => hq.elim
  | .ok .cont, _, hq => hq.elim
/-- f(e, ..) -/
theorem pe_callG (F : FnG X.prog X.w X.K X.mg X.base CX k f fd ps sp) (hr : RoomG k X.A) (hg : Gl X x) (hm : X.mg x = some (.ref f)) (hk : PySem.W.keepIn X.K (.ref f) = true) (hb : Binds X.K fd ps []) (hx : Passes CX X E) (ha : PA X (e :: es) t)
    (hdb : (x == ("__debug__" : Str)) = false := by decide) (he : starEach (e :: es) X.env = (false, eval e X.env) :: starEach es X.env := by rfl) (hpl : (backTo pos (starEach es X.env)).any (·.1) = false := by rfl) :
    PE X (.Call (.Name x p) (e :: es) [] pos) (fun σ H Q => t σ H fun vs H1 => sp vs H1 Q E) := by
  constructor
  intro pins s σ H Q I h
  apply wpAny_Call_Name_kw
  apply ld_glob I hg hm _ hdb
  refine PySem.W.callWith_K (h₀ := X.base) I.ok.mod.kin hk ?_ he hpl
  refine thn (ha.run pos pins s σ H _ I h) ?_
  rintro us s1 ⟨vs, H1, I1, vu, q⟩
  refine And.intro I1.kIn ?_
  have hl : (us ++ []).length = ps.length := by rw [List.append_nil, ← vu.length]; exact F.len _ _ _ _ q
  have bnd := hb s1 us I1.kIn hl
  rw [List.append_nil] at bnd
  exact wpAny_call (codeAny_mono (F.run hr I1.env0 bnd vu q) (back_of hx I1))
theorem run_kwG {pins : List (Addr × Obj)} {σ : L2.St} {H : Hp} {s : Shared} {Q : VK} {us ws : List Value} {vs zs : List V} (F : FnG X.prog X.w X.K X.mg X.base CX k f fd ps sp) (hr : RoomG k X.A) (hb : KBinds X.K fd ps ks g gV) (hx : Passes CX X E)
    (I : Inv X pins σ H s) (vu : Vals vs us) (zw : Vals zs ws) (h : sp (gV vs zs) H Q E) : wpAny (model X.prog X.w) X.A (call (.ref f) us (ks.zip ws)) (EP X pins σ Q) X.xe s := by
  have rel := hb.rel vu zw
  have hl : (g us ws).length = ps.length := by rw [← rel.length]; exact F.len _ _ _ _ h
  exact wpAny_call (codeAny_mono (F.run hr I.env0 (hb.to s us ws I.kIn hl) rel h) (back_of hx I))
/-- f(e, .., k = v, ..) -/
theorem pe_callGK (F : FnG X.prog X.w X.K X.mg X.base CX k f fd ps sp) (hr : RoomG k X.A) (hg : Gl X x) (hm : X.mg x = some (.ref f)) (hk : PySem.W.keepIn X.K (.ref f) = true) (hb : KBinds X.K fd ps ks g gV) (hx : Passes CX X E) (ha : PA X (e :: es) t) (hkw : PK X kws tk)
    (hall : (backToKw pos (keywordEach kws X.env)).all (·.1.isSome) = true := by rfl) (hks : (backToKw pos (keywordEach kws X.env)).filterMap (·.1) = ks := by rfl) (hdb : (x == ("__debug__" : Str)) = false := by decide)
    (he : starEach (e :: es) X.env = (false, eval e X.env) :: starEach es X.env := by rfl) (hpl : ((backTo pos (starEach (e :: es) X.env)).any (·.1) || (backToKw pos (keywordEach kws X.env)).any (·.1.isNone)) = false := by rfl) :
    PE X (.Call (.Name x p) (e :: es) kws pos) (fun σ H Q => t σ H fun vs H1 => tk σ H1 fun zs H2 => sp (gV vs zs) H2 Q E) := by
  constructor
  intro pins s σ H Q I h
  apply wpAny_Call_Name_kw
  apply ld_glob I hg hm _ hdb
  refine PySem.W.callWith_KW (h₀ := X.base) I.ok.mod.kin hk hall ?_ hpl he
  refine thn (ha.run pos pins s σ H _ I h) ?_
  rintro us s1 ⟨vs, H1, I1, vu, q⟩
  refine thn (hkw.run pos pins s1 σ H1 _ I1 q) ?_
  rintro ws s2 ⟨zs, H2, I2, zw, q2⟩
  refine And.intro I2.kIn ?_
  rw [hks]
  exact run_kwG F hr hb hx I2 vu zw q2
/-- f(k = v, ..) -/
theorem pe_callGK0 (F : FnG X.prog X.w X.K X.mg X.base CX k f fd ps sp) (hr : RoomG k X.A) (hg : Gl X x) (hm : X.mg x = some (.ref f)) (hk : PySem.W.keepIn X.K (.ref f) = true) (hb : KBinds X.K fd ps ks g gV) (hx : Passes CX X E) (hkw : PK X kws tk)
    (hall : (backToKw pos (keywordEach kws X.env)).all (·.1.isSome) = true := by rfl) (hks : (backToKw pos (keywordEach kws X.env)).filterMap (·.1) = ks := by rfl) (hdb : (x == ("__debug__" : Str)) = false := by decide)
    (hpl : ((backTo pos (starEach [] X.env)).any (·.1) || (backToKw pos (keywordEach kws X.env)).any (·.1.isNone)) = false := by rfl) :
    PE X (.Call (.Name x p) [] kws pos) (fun σ H Q => tk σ H fun zs H2 => sp (gV [] zs) H2 Q E) := by
  constructor
  intro pins s σ H Q I h
  apply wpAny_Call_Name_kw
  apply ld_glob I hg hm _ hdb
  refine PySem.W.callWith_KW0 (h₀ := X.base) I.ok.mod.kin hk hall ?_ hpl
  refine thn (hkw.run pos pins s σ H _ I h) ?_
  rintro ws s2 ⟨zs, H2, I2, zw, q2⟩
  refine And.intro I2.kIn ?_
  rw [hks]
  exact run_kwG (us := []) (vs := []) F hr hb hx I2 .nil zw q2
end

/-! ### repr of data -/
section
variable {X : Cx}
/-- how far repr goes: no dict, shallow, short -/
def reprOk (d : PyData) : Bool := d.showable && !d.hasDict && decide (d.depth ≤ 30) && decide (d.shown.length ≤ sizeLine)
def rRepr (K : PySem.W.Frag) : List V → Hp → VK → Prop := fun xs H Q => ∃ x d, xs = [x] ∧ (∃ a, x = .ref a) ∧ Dp K H x d ∧ reprOk d = true ∧ Q (.str d.shown) H
theorem cr_repr (hu : X.A.units + 64 < cLine) (hg : X.A.guards = some []) : CallR X (.builtin "repr") (rRepr X.K) := by
  intro pins s σ H xs us Q I vu h
  obtain ⟨x, d, rfl, ⟨a, rfl⟩, hd, ok, q⟩ := h
  unfold reprOk at ok
  simp only [Bool.and_eq_true, Bool.not_eq_true', decide_eq_true_eq] at ok
  obtain ⟨⟨⟨o1, o2⟩, o3⟩, o4⟩ := ok
  cases vu with
  | @cons _ u _ _ ru rest =>
    cases rest
    obtain ⟨as, rd⟩ := Dp.reads I d _ u hd ru
    obtain rfl : u = Value.ref a := ru
    refine repr_of_reads' rd o1 (PyData.noDict_hsm o2) hg (by omega) (fun _ _ e => e) ?_ o4
    intro h' u tk keep
    refine ⟨.str d.shown, H, ?_, ⟨u, rfl⟩, q⟩
    exact I.kept keep
end

/-! ### the end of a law -/
section
variable {P : Program} {w : World} {K : PySem.W.Frag} {mg mb : Str → Option Value} {CX : CXT} {k : Nat} {fa a : Addr} {fd : FuncData} {x : Str} {sp : Sp} {s1 : Shared} {H : Hp} {vs : List Value}
/-- at most the script is tracked -/
structure Start (K : PySem.W.Frag) (H : Hp) (h : Heap) (a : Addr) : Prop where
  only : ∀ b, H b ≠ none → b = a
  frz : ∀ b u, H b = some u → ∃ o ys, u = .frz o (.lst ys)
  ok : H a ≠ none → K.lookup a = none
theorem law_from (St : Start K H s1.heap a) (hok : HOk P w H s1.heap) (kin : K.In s1.heap) (hns : s1.heap.Ns mainGlobals mg) (hbn : s1.heap.Ns builtinsNs mb) (hbb : ∀ x : Str, x ≠ "__name__" → mb x = bootBuiltins x) (hlim : s1.heap.NoLimit)
    (hgen : s1.gens = #[]) (ha : s1.heap.get? a = some { cls := .type "list", data := .seq vs.toArray }) (hr : RoomG k callerA) (F : ∀ b : Heap, K.In b → b.Ns mainGlobals mg → FnG P w K mg b CX k fa fd [x] sp)
    (hbind : ∀ (s : Shared) (u : Value), BindsTo s fd ⟨[u], []⟩ [(x, u)]) (hsp : sp [.ref a] H (fun v _ => v = .bl true) fun _ _ _ => False) (hCX : ∀ H e s', CX [] H s1 (fun _ _ _ => False) e s' → False) :
    codeAny (model P w) callerA (.call (.ref fa) ⟨[.ref a], []⟩) (fun r s' => r = .ok (.ret (.bool true)) ∧ OldK s1.heap s'.heap ∧ s'.os = s1.os ∧ AllBare s'.gens) s1 := by
  let B := hidT s1.heap H
  have get : ∀ b o, s1.heap.get? b = some o → H b = none → B.get? b = some o := fun _ _ e n => hidT_get e n
  have free : ∀ b o, s1.heap.get? b = some o → (∀ q m, o.data ≠ .seq q m) → H b = none := by
    intro b o e d
    apply Classical.byContradiction
    intro n
    obtain rfl := St.only b n
    rw [ha] at e
    cases e
    exact d _ _ rfl
  have ns : ∀ {b : Addr} {m : Str → Option Value}, s1.heap.Ns b m → B.Ns b m := by
    rintro b m ⟨o, es, ep, e, d, r⟩
    refine ⟨o, es, ep, get b o e (free b o e fun _ _ z => ?_), d, r⟩
    rw [d] at z
    cases z
  have kinB : K.In B := by
    intro b o e
    refine get b o (kin b o e) (Classical.byContradiction fun n => ?_)
    obtain rfl := St.only b n
    rw [St.ok n] at e
    cases e
  have md : Mod K mg B := by
    obtain ⟨mc, l1, l2⟩ := hlim
    exact { kin := kinB, glob := ns hns, blt := ⟨mb, ns hbn, hbb⟩, nolimit := ⟨mc, ns l1, l2⟩ }
  have e0 : Env0 P w K mg B callerA [] s1 H := by
    refine { frames := rfl, mod := md, bs := fun b o e => of_hidT e, bsz := Nat.le_of_eq (hidT_size _ _), funs := trivial, frf := ?_, hok := hok, bare := .of_eq hgen }
    intro b hb
    cases (show b ∈ ([] : List Addr) from hb)
  refine codeAny_mono ((F B kinB (ns hns)).run (us := [.ref a]) (vs := [.ref a]) hr e0 (hbind s1 (.ref a)) (.cons rfl .nil) hsp) ?_
  intro r s' h
  match r, h with
  | .error e, h => exact (hCX H e s' h).elim
  | .ok .next, h => exact h.elim
  | .ok .brk, h => exact h.elim
  | .ok .cont, h => exact h.elim
  | .ok (.ret u), h =>
    obtain ⟨v, H', os, bare, un, hok2, rv, q⟩ := h
    obtain rfl : v = .bl true := q
    obtain rfl : u = Value.bool true := rv
    refine ⟨rfl, OldK.of_keep ?_, os, bare⟩
    intro b o e
    cases hb : H b with
    | none => exact un.keep b o e hb (by intro z; cases (show b ∈ ([] : List Addr) from z)) (by simp)
    | some u =>
      obtain ⟨ob, ys, rfl⟩ := St.frz b u hb
      have z1 := (hok b _ hb).1
      have z2 := (hok2 b _ (un.frzs b ob _ hb)).1
      rw [e] at z1
      cases z1
      exact z2
theorem law_endG {ns : List Int} (kin : K.In s1.heap) (hns : s1.heap.Ns mainGlobals mg) (hbn : s1.heap.Ns builtinsNs mb) (hbb : ∀ x : Str, x ≠ "__name__" → mb x = bootBuiltins x) (hlim : s1.heap.NoLimit)
    (hgen : s1.gens = #[]) (ha : s1.heap.get? a = some { cls := .type "list", data := .seq vs.toArray }) (hi : IntsAre vs ns) (hl : ns.length ≤ sizeLine) (hr : RoomG k callerA) (F : ∀ b : Heap, K.In b → b.Ns mainGlobals mg → FnG P w K mg b CX k fa fd [x] sp)
    (hbind : ∀ (s : Shared) (u : Value), BindsTo s fd ⟨[u], []⟩ [(x, u)]) (hsp : ∀ H : Hp, (∀ b u, H b = some u → ∃ o ys, u = .frz o (.lst ys)) → SqL K H a (ns.map V.int) → sp [.ref a] H (fun v _ => v = .bl true) fun _ _ _ => False)
    (hCX : ∀ H e s', CX [] H s1 (fun _ _ _ => False) e s' → False) :
    codeAny (model P w) callerA (.call (.ref fa) ⟨[.ref a], []⟩) (fun r s' => r = .ok (.ret (.bool true)) ∧ OldK s1.heap s'.heap ∧ s'.os = s1.os ∧ AllBare s'.gens) s1 := by
  have vals := vals_ints hi
  have len := hi.length
  cases hk : K.lookup a with
  | some o =>
    have e := kin a o hk
    rw [ha] at e
    cases e
    have no : ∀ b u, (fun _ : Addr => (none : Option HO)) b = some u → False := fun b u z => by cases (show (none : Option HO) = some u from z)
    refine law_from (H := fun _ => none) { only := fun b n => (n rfl).elim, frz := fun b u z => (no b u z).elim, ok := fun n => (n rfl).elim } (fun b u z => (no b u z).elim) kin hns hbn hbb hlim hgen ha hr F hbind ?_ hCX
    refine hsp _ (fun b u z => (no b u z).elim) (.inr ⟨_, vs.toArray, _, hk, rfl, rfl, rfl, ?_, by simpa using vals⟩)
    rw [List.size_toArray, len]
    exact hl
  | none =>
    let o : Obj := { cls := .type "list", data := .seq vs.toArray }
    let H : Hp := fun b => if b = a then some (.frz o (.lst (ns.map V.int))) else none
    have at_a : H a = some (.frz o (.lst (ns.map V.int))) := if_pos rfl
    have off : ∀ b, b ≠ a → H b = none := fun b n => if_neg n
    have one : ∀ b u, H b = some u → b = a ∧ u = .frz o (.lst (ns.map V.int)) := by
      intro b u z
      by_cases e : b = a
      · subst e
        rw [at_a] at z
        exact ⟨rfl, (Option.some.inj z).symm⟩
      · rw [off b e] at z
        cases z
    refine law_from (H := H) { only := fun b n => Classical.byContradiction fun z => n (off b z), frz := fun b u z => ⟨o, _, (one b u z).2⟩, ok := fun _ => hk } ?_ kin hns hbn hbb hlim hgen ha hr F hbind (hsp H (fun b u z => ⟨o, _, (one b u z).2⟩) (.inl (.inr ⟨o, at_a⟩))) hCX
    intro b u z
    obtain ⟨rfl, rfl⟩ := one b u z
    refine ⟨ha, ?_, vs, _, vals, ha⟩
    rw [List.length_map]
    exact hl
/-- the goal that k_head leaves, from the law's promise -/
theorem walk_ofG {l : PySem.W.OpenLaw} {n k : Nat} {q : Program} {loose : List Str} {XP : (Str → Option Value) → Heap → Prop} {YP : World → Heap → Prop} {d : DefRec} {K : Params → PySem.W.Frag} {CX : World → CXT} {sp : World → Sp} {x : Str}
    (hn : l.most = some n) (hn2 : n ≤ sizeLine) (hdf : d.params.defaults = []) (hr : RoomG k callerA) (hY : ∀ (w : World) (h : Heap), YP w h → (K w.params).In h)
    (F : ∀ (w : World) (mg : Str → Option Value) (fa : Addr) (h : Heap), (K w.params).In h → h.Ns mainGlobals mg → mg d.name = some (.ref fa) → ∃ fd : FuncData, (∀ (s : Shared) (u : Value), BindsTo s fd ⟨[u], []⟩ [(x, u)]) ∧
      ∀ b : Heap, (K w.params).In b → b.Ns mainGlobals mg → FnG l.prog w (K w.params) mg b (CX w) k fa fd [x] (sp w))
    (hsp : ∀ (w : World) (H : Hp) (a : Addr) (ns : List Int), ns.length ≤ n → (∀ b u, H b = some u → ∃ o ys, u = .frz o (.lst ys)) → SqL (K w.params) H a (ns.map V.int) → sp w [.ref a] H (fun v _ => v = .bl true) fun _ _ _ => False)
    (hCX : ∀ (w : World) (H : Hp) (s : Shared) (e : Value) (s' : Shared), CX w [] H s (fun _ _ _ => False) e s' → False) : PySem.W.WalkO q loose XP YP l.row.toRowW d [] (fun f vs => PySem.call f vs) := by
  apply Att.attach_call hn hdf
  intro w s0 s1 mg mb fa o pm cd doc a vs ns G Y ho hd hcd hmg hobj hints hlen hgen
  have kin := hY w _ Y
  obtain ⟨fd, hb, hF⟩ := F w mg fa _ kin G.T.g hmg
  exact law_endG kin G.T.g G.T.b G.T.builtins G.T.nolimit hgen hobj hints (Nat.le_trans hlen hn2) hr hF hb (fun H h1 h2 => hsp w H a ns hlen h1 h2) (fun H e s' => hCX w H s1 e s')
end
end GX
/-! Dicts whose keys are tuples of ints and texts, the tuples lying anywhere (tracked, or in the text). -/
namespace GX
open PySem PySem.Spec PyProof.Rows L2

/-! ### tuples that are known to have no names of their own -/
/-- the tuple at a is an object without a dict -/
def PlT (K : PySem.W.Frag) (H : Hp) (a : Addr) : Prop := (∃ (o : Obj) (u : HO), H a = some (.frz o u) ∧ o.dict = none) ∨ ∃ o, K.lookup a = some o ∧ o.dict = none
theorem PlT.mono {K : PySem.W.Frag} {H H' : Hp} {a : Addr} (e : ∀ b o, H b = some o → H' b = some o) (h : PlT K H a) : PlT K H' a := h.imp (fun ⟨o, u, q, d⟩ => ⟨o, u, e _ _ q, d⟩) id
/-- a new tuple, known as the object that it is -/
abbrev ftup (us : List Value) (xs : List V) : HO := .frz { cls := .type "tuple", data := .seq us.toArray } (.tup xs)
theorem ftup_ok {P : Program} {w : World} {H : Hp} {h : Heap} {p : Addr} {us : List Value} {xs : List V} (z : xs.length ≤ sizeLine) (r : Vals xs us) (e : h.get? p = some { cls := .type "tuple", data := .seq us.toArray }) : ObjOk P w H h p (ftup us xs) :=
  ⟨e, z, us, r, ⟨_, e, rfl, _, rfl⟩⟩
section
variable {X : Cx}
def tTupF (t : TA) : TE := fun σ H Q => t σ H fun xs H1 => xs.length ≤ sizeLine ∧ ∀ p us, H1 p = none → Q (.ref p) (upd H1 p (ftup us xs))
theorem pe_tupF {es : List Expr} {t : TA} {pos : Pos} {x1} (h : PA X es t) : PE X (.Tuple es x1 pos) (tTupF t) := ⟨fun pins s σ H Q I hq =>
  wpAny_Tuple_spliced (thn (h.run pos pins s σ H _ I hq) fun us s1 ⟨xs, H1, I1, r, z, q⟩ => ⟨by rw [← r.length]; exact z,
    ⟨.ref s1.heap.objs.size, upd H1 s1.heap.objs.size (ftup us xs), I1.laid (t' := s1.toks) (fun _ _ => Heap.get?_push_of_some _) (Nat.le_refl _) (ftup_ok z r (Heap.get?_push_size _ rfl)), rfl, q _ us (I1.hok.fresh (Nat.le_refl _))⟩⟩)⟩
def rCatF (K : PySem.W.Frag) : R2 := fun x y H Q => ∃ a b xs ys, x = .ref a ∧ y = .ref b ∧ SqT K H a xs ∧ SqT K H b ys ∧ xs.length + ys.length ≤ sizeLine ∧
  (xs = [] → Q (.ref b) H) ∧ (xs ≠ [] → ys = [] → Q (.ref a) H) ∧ (xs ≠ [] → ys ≠ [] → ∀ p us, H p = none → Q (.ref p) (upd H p (ftup us (xs ++ ys))))
theorem op_catF : OpR X (binaryOp .Add) (rCatF X.K) := by
  intro pins s σ H x y v u Q I rx ry h
  obtain ⟨a, b, xs, ys, rfl, rfl, ha, hb, hz, q0, q1, q2⟩ := h
  obtain ⟨us, r1, p1, _⟩ := I.tuple ha; obtain ⟨ws, r2, p2, _⟩ := I.tuple hb
  cases rx; cases ry
  by_cases hx : xs = []
  · subst hx; cases r1
    exact L2.cat_tup0 p1 p2 ⟨.ref b, H, I, rfl, q0 rfl⟩
  · refine HT.cat_tup p1 p2 (fun z => hx (r1.nil_iff.mp z)) (fun z => ⟨.ref a, H, I, rfl, q1 hx (r2.nil_iff.mp z)⟩) (fun z => ?_) (by rw [← r1.length, ← r2.length]; exact hz)
    exact ⟨.ref s.heap.objs.size, _, I.laid (t' := s.toks) (o := ftup (us ++ ws) (xs ++ ys)) (fun _ _ => Heap.get?_push_of_some _) (Nat.le_refl _) (ftup_ok (by rw [List.length_append]; exact hz) (r1.append r2) (Heap.get?_push_size _ rfl)), rfl,
      q2 hx (fun w => z (r2.nil_iff.mpr w)) _ _ (I.hok.fresh (Nat.le_refl _))⟩
/-- tuple(xs) -/
def rTupF (K : PySem.W.Frag) : List V → Hp → VK → Prop := fun xs H Q => ∃ p ys, xs = [.ref p] ∧ ((SqL K H p ys ∧ ∀ l us, H l = none → Q (.ref l) (upd H l (ftup us ys))) ∨ (SqT K H p ys ∧ Q (.ref p) H))
theorem call_tupF : CallR X (.type "tuple") (rTupF X.K) := by
  intro pins s σ H xs us Q I r h
  obtain ⟨p, ys, rfl, h⟩ := h
  obtain rfl := Vals.ref1 r
  rcases h with ⟨hq, q⟩ | ⟨hq, q⟩
  · obtain ⟨its, r', pl, hz⟩ := I.list hq
    have hlen := r'.length
    refine call_tuple_list pl.isList (fun g kp => ?_) (by simp only [List.size_toArray] <;> omega)
    have I1 : Inv X pins σ H { s with heap := g } := I.kept (t' := s.toks) kp
    exact ⟨.ref g.objs.size, _, I1.laid (o := ftup its ys) (t' := s.toks) (fun _ _ => Heap.get?_push_of_some _) (Nat.le_refl _) (ftup_ok hz r' (Heap.get?_push_size _ rfl)), rfl, q _ its (I1.hok.fresh (Nat.le_refl _))⟩
  · obtain ⟨its, r', pl, hz⟩ := I.tuple hq
    exact call_tuple_same pl ⟨.ref p, H, I, rfl, q⟩
end

/-- an entry: the key, where its own tuple lies, the value -/
abbrev XE := List L2.Key × Addr × V
abbrev XR := List L2.Key × Addr × Value
abbrev XP : List XE → List XR → Prop := Paired fun p q => p.1 = q.1 ∧ p.2.1 = q.2.1 ∧ RelV p.2.2 q.2.2
def px (l : List XE) : List (List L2.Key × V) := l.map fun e => (e.1, e.2.2)
def hasX (l : List XE) (k : List L2.Key) : Bool := (valV (px l) k).isSome
def putX (l : List XE) (k : List L2.Key) (b : Addr) (v : V) : List XE := if hasX l k = true then l.map (fun e => if e.1 = k then (e.1, e.2.1, v) else e) else l ++ [(k, b, v)]
theorem px_put (l : List XE) (k : List L2.Key) (b : Addr) (v : V) : px (putX l k b v) = putK (px l) k v := by
  unfold putX putK
  have e : ((px l).any fun kv => decide (kv.1 = k)) = hasX l k := by rw [valV_any]; rfl
  rw [e]
  by_cases h : hasX l k = true
  · rw [if_pos h, if_pos h]
    unfold px
    rw [List.map_map, List.map_map]
    apply List.map_congr_left
    intro x _
    by_cases q : x.1 = k
    · simp [q]
    · simp [q]
  · rw [if_neg h, if_neg h]
    unfold px
    rw [List.map_append]
    rfl
theorem putX_len (l : List XE) (k : List L2.Key) (b : Addr) (v : V) : (putX l k b v).length ≤ l.length + 1 := by
  unfold putX
  split <;> simp
theorem XP.val {l : List XE} {xs : List XR} (r : XP l xs) (k : List L2.Key) : RelO (valV (px l) k) ((atKey xs k).map (·.2)) := by
  induction r with
  | nil => trivial
  | @cons p q ps qs h t ih =>
    obtain ⟨h1, h2, h3⟩ := h
    show RelO (valV ((p.1, p.2.2) :: px ps) k) _
    by_cases e : p.1 = k
    · rw [valV_pos e]
      have b : atKey (q :: qs) k = some q.2 := by simp [atKey, List.find?_cons, h1.symm.trans e]
      rw [b]
      exact h3
    · rw [valV_neg e]
      have b : atKey (q :: qs) k = atKey qs k := by simp [atKey, List.find?_cons, show ¬ q.1 = k from fun z => e (h1.trans z)]
      rw [b]
      exact ih
theorem XP.put {l : List XE} {xs : List XR} (r : XP l xs) (k : List L2.Key) (b : Addr) {v : V} {u : Value} (rv : RelV v u) : XP (putX l k b v) (storedH xs k b u) := by
  have e : hasX l k = (atKey xs k).isSome := by
    have := (r.val k).isSome_eq
    rw [Option.isSome_map] at this
    exact this
  unfold putX storedH
  rw [e]
  split
  · rename_i hh
    clear e hh
    induction r with
    | nil => exact .nil
    | @cons p q ps qs h t ih =>
      obtain ⟨h1, h2, h3⟩ := h
      refine .cons ?_ ih
      unfold putAt
      show (if p.1 = k then (p.1, p.2.1, v) else p).1 = _ ∧ (if p.1 = k then (p.1, p.2.1, v) else p).2.1 = _ ∧ RelV (if p.1 = k then (p.1, p.2.1, v) else p).2.2 _
      by_cases c : p.1 = k
      · rw [if_pos c, if_pos (h1.symm.trans c)]; exact ⟨h1, h2, rv⟩
      · rw [if_neg c, if_neg (fun z => c (h1.trans z))]; exact ⟨h1, h2, h3⟩
  · exact Paired.snoc r ⟨rfl, rfl, rv⟩
theorem XP.keys {l : List XE} {xs : List XR} (r : XP l xs) : l.map (·.1) = xs.map (·.1) := by
  induction r with
  | nil => rfl
  | cons h t ih => rw [List.map_cons, List.map_cons, ih, h.1]

/-- the heap's dict at a -/
def DXat (w : World) (a : Addr) (l : List XE) (h : Heap) : Prop := (a == sysModules) = false ∧ l.length ≤ sizeLine ∧ ∃ xs, XP l xs ∧ (xs.map (·.1)).Nodup ∧
  ∃ o es ep, h.get? a = some o ∧ o.ExactDict ∧ o.data = .dict es ep ∧ ∀ P : Program, es.toList = xs.map (entryOfKey (tupleKind (mixKind P w)))
def dxO (w : World) (a : Addr) (l : List XE) : HO := .ext (DXat w a l)
section
variable {P : Program} {w : World} {H : Hp} {h h' : Heap} {a b : Addr} {l : List XE}
theorem DXat.at {h h' : Heap} (x : DXat w a l h) (k : ∀ o, h.get? a = some o → h'.get? a = some o) : DXat w a l h' := by
  obtain ⟨h1, h2, xs, h3, h4, o, es, ep, h5, h6, h7, h8⟩ := x
  exact ⟨h1, h2, xs, h3, h4, o, es, ep, k o h5, h6, h7, h8⟩
theorem dx_ok (x : DXat w a l h) : ObjOk P w H h a (dxO w a l) := by
  refine ⟨x, ?_, fun h1 h2 y k => y.at k⟩
  obtain ⟨_, _, _, _, _, o, _, _, h5, _⟩ := x
  exact ⟨o, h5⟩
theorem dx_rd (ok : HOk P w H h) (e : Rd H a (dxO w a l)) : DXat w a l h := (show ObjOk P w H h a (dxO w a l) from e.ok ok).1
theorem dx_of {xs : List XR} (hd : (a == sysModules) = false) (hl : l.length ≤ sizeLine) (r : XP l xs) (d : h.DictOfH (tupleKind (mixKind P w)) a xs) : DXat w a l h := by
  obtain ⟨o, es, ep, h1, h2, h3, h4, _, h5⟩ := d
  exact ⟨hd, hl, xs, r, h5, o, es, ep, h1, h2, h3, fun _ => h4⟩
end
section
variable {X : Cx} {pins : List (Addr × Obj)} {σ : L2.St} {H : Hp} {s : Shared} {a b : Addr} {l : List XE} {k : List L2.Key} {y v : V} {u r : Value} {A : Around} {E : Value → Shared → Prop}
/-- a tuple of ints and texts is a key -/
theorem key_at (I : Inv X pins σ H s) (e : SqT X.K H b (k.map kV)) : (tupleKind (mixKind X.prog X.w)).is s.heap k b := by
  obtain ⟨its, r, ⟨o, h1, h2, n, h3⟩, _⟩ := I.tuple e
  exact ⟨o, its.toArray, n, h1, h2, h3, by simpa using items_are r⟩
/-- every key's tuple is there -/
def KeysIn (K : PySem.W.Frag) (H : Hp) (l : List XE) : Prop := ∀ e ∈ l, SqT K H e.2.1 (e.1.map kV) ∧ (e.1 = [] → PlT K H e.2.1)
theorem dict_at (I : Inv X pins σ H s) (e : Rd H a (dxO X.w a l)) (hk : KeysIn X.K H l) : (a == sysModules) = false ∧ l.length ≤ sizeLine ∧ ∃ xs, XP l xs ∧ xs.length = l.length ∧ s.heap.DictOfH (tupleKind (mixKind X.prog X.w)) a xs := by
  obtain ⟨h1, h2, xs, h3, h4, o, es, ep, h5, h6, h7, h8⟩ := dx_rd I.hok e
  refine ⟨h1, h2, xs, h3, (Paired.length h3).symm, o, es, ep, h5, h6, h7, h8 X.prog, ?_, h4⟩
  intro x hx
  have all : ∀ {m : List XE} {zs : List XR}, XP m zs → KeysIn X.K H m → ∀ z ∈ zs, (tupleKind (mixKind X.prog X.w)).is s.heap z.1 z.2.1 := by
    intro m zs r
    induction r with
    | nil => intro _ z hz; cases hz
    | @cons p q ps qs hq t ih =>
      intro hm z hz
      rcases List.mem_cons.mp hz with e | hz
      · subst e
        rw [← hq.1, ← hq.2.1]
        exact key_at I (hm p List.mem_cons_self).1
      · exact ih (fun c hc => hm c (List.mem_cons_of_mem _ hc)) z hz
  exact all h3 hk x hx
theorem x_getItem {Q : Value → Shared → Prop} (hu : A.units + 1 < cLine) (I : Inv X pins σ H s) (e : Rd H a (dxO X.w a l)) (hk : KeysIn X.K H l) (kb : SqT X.K H b (k.map kV)) (hv : valV (px l) k = some v) (h : ∀ w' s', Inv X pins σ H s' → RelV v w' → Q w' s') :
    wpAny (model X.prog X.w) A (getItem (.ref a) (.ref b)) Q E s := by
  obtain ⟨hd, z, xs, rel, _, dd⟩ := dict_at I e hk
  obtain ⟨w', hw, rw'⟩ := RelO.some_of (v := v) (o := (atKey xs k).map (·.2)) (by rw [← hv]; exact rel.val k)
  obtain ⟨p, hp, rfl⟩ := Option.map_eq_some_iff.mp hw
  exact wpAny_getItem_heap (tupleKind_room_in1 hu) (key_at I kb) dd hp (h p.2 _ (I.tok _) rw')
theorem x_has {xs : List XR} (rel : XP l xs) : (atKey xs k).isSome = hasX l k := by
  have q := (rel.val k).isSome_eq
  rw [Option.isSome_map] at q
  exact q.symm
theorem x_in {Q : Value → Shared → Prop} (hu : A.units + 1 < cLine) (I : Inv X pins σ H s) (e : Rd H a (dxO X.w a l)) (hk : KeysIn X.K H l) (kb : SqT X.K H b (k.map kV)) (h : ∀ s', Inv X pins σ H s' → Q (.bool (hasX l k)) s') :
    wpAny (model X.prog X.w) A (compareOp .In (.ref b) (.ref a)) Q E s := by
  obtain ⟨hd, z, xs, rel, _, dd⟩ := dict_at I e hk
  refine wpAny_in_heap (tupleKind_room_in1 hu) (key_at I kb) hd dd ?_
  rw [x_has rel]
  exact h _ (I.tok _)
theorem x_notIn {Q : Value → Shared → Prop} (hu : A.units + 1 < cLine) (I : Inv X pins σ H s) (e : Rd H a (dxO X.w a l)) (hk : KeysIn X.K H l) (kb : SqT X.K H b (k.map kV)) (h : ∀ s', Inv X pins σ H s' → Q (.bool (!hasX l k)) s') :
    wpAny (model X.prog X.w) A (compareOp .NotIn (.ref b) (.ref a)) Q E s := by
  obtain ⟨hd, z, xs, rel, _, dd⟩ := dict_at I e hk
  refine wpAny_notIn_heap (tupleKind_room_in1 hu) (key_at I kb) hd dd ?_
  rw [x_has rel]
  exact h _ (I.tok _)
theorem x_setItem {Q : Unit → Shared → Prop} (hu : A.units + 1 < cLine) (I : Inv X pins σ H s) (e : H a = some (dxO X.w a l)) (hk : KeysIn X.K H l) (kb : SqT X.K H b (k.map kV)) (rv : RelV v r) (hl : l.length < sizeLine)
    (h : ∀ s', Inv X pins σ (upd H a (dxO X.w a (putX l k b v))) s' → Q () s') : wpAny (model X.prog X.w) A (setItem (.ref a) (.ref b) r) Q E s := by
  obtain ⟨hd, z, xs, rel, len, dd⟩ := dict_at I (.inl e) hk
  refine wpAny_setItem_heap (tupleKind_room_in1 hu) (key_at I kb) dd ?_ (by rw [len]; exact z)
  intro h' dd' hs
  have new : DXat X.w a (putX l k b v) h' := dx_of hd (Nat.le_trans (putX_len l k b v) hl) (rel.put k b rv) dd'
  refine h _ (d_write I (by rw [e]; trivial) hs ?_ (dx_ok new))
  obtain ⟨q, _, _, hq, _⟩ := dd'
  exact ⟨q, hq⟩
theorem x_get2 {d : V} {dv : Value} {Q : Value → Shared → Prop} (hu : A.units + 1 < cLine) (I : Inv X pins σ H s) (e : Rd H a (dxO X.w a l)) (hk : KeysIn X.K H l) (kb : SqT X.K H b (k.map kV)) (rd : RelV d dv)
    (h : ∀ w' s', Inv X pins σ H s' → RelV ((valV (px l) k).getD d) w' → Q w' s') : wpAny (model X.prog X.w) A (call (.builtin "dict.get") [.ref a, .ref b, dv]) Q E s := by
  obtain ⟨hd, z, xs, rel, len, dd⟩ := dict_at I e hk
  refine call_meetsIn PySem.F.slot_dict_get dd.typeIs PySem.F.entry_dict_get (PySem.F.args_dict_get_3 _ _ _) (meetsH_dict_get_default (tupleKind (mixKind X.prog X.w)) a b hd dv) ?_
  exact ⟨tupleKind_room_in1 hu, k, xs, key_at I kb, dd, h _ _ (I.tok _) ((rel.val k).getD rd)⟩
theorem x_type (I : Inv X pins σ H s) (e : Rd H a (dxO X.w a l)) : s.TypeIs (.ref a) "dict" ∧ ∀ c, Value.ref a = .ref c → ∃ ob, s.heap.get? c = some ob ∧ ob.dict = none := by
  obtain ⟨h1, h2, xs, h3, h4, o, es, ep, h5, h6, h7, h8⟩ := dx_rd I.hok e
  refine ⟨⟨o, h5, h6.1⟩, ?_⟩
  intro c q
  cases q
  exact ⟨o, h5, h6.2.1⟩
theorem x_len {Q : Value → Shared → Prop} (I : Inv X pins σ H s) (e : Rd H a (dxO X.w a l)) (hk : KeysIn X.K H l) (h : ∀ t s', Inv X pins σ H s' → Q (.int l.length t) s') : wpAny (model X.prog X.w) A (call (.builtin "len") [.ref a]) Q E s := by
  obtain ⟨hd, z, xs, rel, len, dd⟩ := dict_at I e hk
  refine call_len_dictH hd dd (by rw [len]; rw [sizeLine_eq] at z; omega) ?_
  rw [len]
  exact h _ _ (I.tok _)
end

/-! ### rules -/
/-- the dict's state at an address -/
def IsX (w : World) (K : PySem.W.Frag) (H : Hp) (a : Addr) (l : List XE) : Prop := Rd H a (dxO w a l) ∧ KeysIn K H l
def tXGet (w : World) (K : PySem.W.Frag) (td ty : TE) : TE := fun σ H Q => td σ H fun x H1 => ty σ H1 fun y H2 => ∃ a b l k v, x = .ref a ∧ y = .ref b ∧ IsX w K H2 a l ∧ SqT K H2 b (k.map kV) ∧ valV (px l) k = some v ∧ Q v H2
def tXIn (w : World) (K : PySem.W.Frag) (neg : Bool) (ty td : TE) : TE := fun σ H Q => ty σ H fun y H1 => td σ H1 fun x H2 => ∃ a b l k, x = .ref a ∧ y = .ref b ∧ IsX w K H2 a l ∧ SqT K H2 b (k.map kV) ∧ Q (.bl (if neg then !hasX l k else hasX l k)) H2
def tXPut (w : World) (K : PySem.W.Frag) (td ty tv : TE) : TS := fun D σ H => tv σ H fun v H1 => td σ H1 fun x H2 => ty σ H2 fun y H3 => ∃ a b l k, x = .ref a ∧ y = .ref b ∧ H3 a = some (dxO w a l) ∧ KeysIn K H3 l ∧ SqT K H3 b (k.map kV) ∧ l.length < sizeLine ∧
  D.nx σ (upd H3 a (dxO w a (putX l k b v)))
def tXGet2 (w : World) (K : PySem.W.Frag) (td ty tx : TE) : TE := fun σ H Q => td σ H fun x H1 => ∃ a l0, x = .ref a ∧ Rd H1 a (dxO w a l0) ∧ ty σ H1 fun y H2 => tx σ H2 fun z H3 => ∃ b l k, y = .ref b ∧ IsX w K H3 a l ∧ SqT K H3 b (k.map kV) ∧ Q ((valV (px l) k).getD z) H3
def tXNew (w : World) : TE := fun _ H Q => ∀ p, H p = none → Q (.ref p) (upd H p (dxO w p []))
section
variable {X : Cx} {o i e f value : Expr} {pos pos' tpos apos cpos : Pos} {td ty tv tx : TE}
theorem pe_xnew : PE X (.Dict [] [] pos) (tXNew X.w) := by
  constructor
  intro pins s σ H Q I h
  apply wpAny_Dict_empty
  refine ⟨.ref s.heap.objs.size, _, ?_, rfl, h _ (I.hok.fresh (Nat.le_refl _))⟩
  refine I.laid (a := s.heap.objs.size) (t' := s.toks) (fun _ _ q => Heap.get?_push_of_some _ q) (Nat.le_refl _) (dx_ok ?_)
  refine ⟨beq_eq_false_iff_ne.mpr (Ne.symm (Nat.ne_of_lt I.big)), Nat.zero_le _, [], .nil, List.nodup_nil, _, #[], 0, Heap.get?_push_size _ rfl, ⟨rfl, rfl, rfl⟩, rfl, fun _ => rfl⟩
theorem pe_xget (hu : X.A.units + 1 < cLine) (ho : PE X o td) (hi : PE X i ty) (hs : NoSl i) : PE X (.Subscript o i pos) (tXGet X.w X.K td ty) := by
  constructor
  intro pins s σ H Q I h
  apply subD_of PySem.F.slot_dict_getitem.lookup hs
  refine thn (ho.run pins s σ H _ I h) ?_
  rintro u s1 ⟨x, H1, I1, rx, q1⟩
  refine thn (hi.run pins s1 σ H1 _ I1 q1) ?_
  rintro iv s2 ⟨y, H2, I2, ry, a, b, l, k, v, rfl, rfl, ⟨g1, g2⟩, kb, hv, q2⟩
  obtain rfl : u = Value.ref a := rx
  obtain rfl : iv = Value.ref b := ry
  exact ⟨(x_type I2 g1).1, x_getItem hu I2 g1 g2 kb hv fun w' s3 I3 rw' => ⟨v, H2, I3, rw', q2⟩⟩
theorem pc_xin (hu : X.A.units + 1 < cLine) (hi : PE X i ty) (ho : PE X o td) : PC X .In i o (tXIn X.w X.K false ty td) := by
  constructor
  intro pins s σ H Q I h
  refine thn (hi.run pins s σ H _ I h) ?_
  rintro iv s1 ⟨y, H1, I1, ry, q1⟩
  refine thn (ho.run pins s1 σ H1 _ I1 q1) ?_
  rintro u s2 ⟨x, H2, I2, rx, a, b, l, k, rfl, rfl, ⟨g1, g2⟩, kb, q2⟩
  obtain rfl : u = Value.ref a := rx
  obtain rfl : iv = Value.ref b := ry
  exact x_in hu I2 g1 g2 kb fun s3 I3 => ⟨.bl (hasX l k), H2, I3, rfl, q2⟩
theorem pc_xnotin (hu : X.A.units + 1 < cLine) (hi : PE X i ty) (ho : PE X o td) : PC X .NotIn i o (tXIn X.w X.K true ty td) := by
  constructor
  intro pins s σ H Q I h
  refine thn (hi.run pins s σ H _ I h) ?_
  rintro iv s1 ⟨y, H1, I1, ry, q1⟩
  refine thn (ho.run pins s1 σ H1 _ I1 q1) ?_
  rintro u s2 ⟨x, H2, I2, rx, a, b, l, k, rfl, rfl, ⟨g1, g2⟩, kb, q2⟩
  obtain rfl : u = Value.ref a := rx
  obtain rfl : iv = Value.ref b := ry
  exact x_notIn hu I2 g1 g2 kb fun s3 I3 => ⟨.bl (!hasX l k), H2, I3, rfl, q2⟩
theorem ps_xput (hu : X.A.units + 1 < cLine) (ho : PE X o td) (hi : PE X i ty) (hv : PE X value tv) (hs : swapsWith value (some (.Subscript o i pos')) pos.line X.env = pure false) : PS X (.Assign [.Subscript o i pos'] value pos) (tXPut X.w X.K td ty tv) := by
  constructor
  intro pins s σ H D I h
  refine wpAny_Assign_Subscript (thn (hv.run pins s σ H _ I h) ?_) hs
  rintro r s1 ⟨v, H1, I1, rv, q1⟩
  refine thn (ho.run pins s1 σ H1 _ I1 q1) ?_
  rintro u s2 ⟨x, H2, I2, rx, q2⟩
  refine thn (hi.run pins s2 σ H2 _ I2 q2) ?_
  rintro iv s3 ⟨y, H3, I3, ry, a, b, l, k, rfl, rfl, g1, g2, kb, hl, q3⟩
  obtain rfl : u = Value.ref a := rx
  obtain rfl : iv = Value.ref b := ry
  exact x_setItem hu I3 g1 g2 kb rv hl fun s4 I4 => ⟨σ, _, I4, q3⟩
theorem pe_xget2 (hu : X.A.units + 1 < cLine) (ho : PE X o td) (he : PE X e ty) (hf : PE X f tx) (m : M2 X o "get" apos e f cpos) : PE X (.Call (.Attribute o "get" apos) [e, f] [] cpos) (tXGet2 X.w X.K td ty tx) := by
  constructor
  intro pins s σ H Q I h
  refine wpAny_Call_method m.base m.few m.line PySem.F.plainAttrs_dict PySem.F.slot_dict_get PySem.F.type_dict_get (thn (ho.run pins s σ H _ I h) ?_)
  rintro u s1 ⟨x, H1, I1, rx, a, l0, rfl, g0, q1⟩
  obtain rfl : u = Value.ref a := rx
  obtain ⟨t1, t2⟩ := x_type I1 g0
  refine ⟨t1, t2, ?_⟩
  rw [m.trees]
  refine Calls.callWith_builtin rfl (Calls.evalArgs_plain (Calls.spliced_cons (thn (he.run pins s1 σ H1 _ I1 q1) ?_)))
  rintro iv s2 ⟨y, H2, I2, ry, q2⟩
  refine Calls.spliced_cons (thn (hf.run pins s2 σ H2 _ I2 q2) ?_)
  rintro fv s3 ⟨z, H3, I3, rz, b, l, k, rfl, ⟨g1, g2⟩, kb, q3⟩
  obtain rfl : iv = Value.ref b := ry
  exact Calls.spliced_nil (x_get2 hu I3 g1 g2 kb rz fun w' s4 I4 rw' => ⟨_, H3, I4, rw', q3⟩)
end
end GX
/-! The data layer: values as plain data; a def's activation; how slots and heap bear data. -/
namespace L2
open PySem PySem.Spec
theorem Same.seqT {K : PySem.W.Frag} {H H' : Hp} {a : Addr} {xs : List V} (e : Same H H') (h : SqT K H a xs) : SqT K H' a xs := by
  rcases h with (h | ⟨o, h⟩) | h
  · exact .inl (.inl (e _ _ h))
  · exact .inl (.inr ⟨o, e _ _ h⟩)
  · exact .inr h
/-- pairs of a tuple and a number -/
def pl : List PyData → Bool
  | [] => true
  | .tuple [.tuple _, .int _] :: ds => pl ds
  | _ => false
mutual
/-- a value bears data: lists are the def's or another's own objects, tuples may stand in the text -/
inductive Den (K : PySem.W.Frag) (H : Hp) : V → PyData → Prop
  | non : Den K H .non .none
  | bl (b : Bool) : Den K H (.bl b) (.bool b)
  | int (i : Int) : Den K H (.int i) (.int i)
  | str (x : Str) : Den K H (.str x) (.str x)
  | lst {a : Addr} {xs : List V} {ds : List PyData} : H a = some (.lst xs) → DenAll K H xs ds → Den K H (.ref a) (.list ds)
  | tup {a : Addr} {xs : List V} {ds : List PyData} : SqT K H a xs → DenAll K H xs ds → (pl ds = true → GX.PlT K H a) → Den K H (.ref a) (.tuple ds)
inductive DenAll (K : PySem.W.Frag) (H : Hp) : List V → List PyData → Prop
  | nil : DenAll K H [] []
  | cons {v : V} {vs : List V} {d : PyData} {ds : List PyData} : Den K H v d → DenAll K H vs ds → DenAll K H (v :: vs) (d :: ds)
end
mutual
theorem Den.mono {K : PySem.W.Frag} {H H' : Hp} (e : Same H H') : ∀ {d : PyData} {v : V}, Den K H v d → Den K H' v d
  | .none, _, h => by cases h; exact .non
  | .bool _, _, h => by cases h; exact .bl _
  | .int _, _, h => by cases h; exact .int _
  | .str _, _, h => by cases h; exact .str _
  | .list ds, _, h => by
    cases h with
    | lst hs ha => exact .lst (e _ _ hs) (DenAll.mono e ha)
  | .tuple ds, _, h => by
    cases h with
    | tup hs ha hp => exact .tup (Same.seqT e hs) (DenAll.mono e ha) fun z => (hp z).mono e
  | .dict _, _, h => by cases h
theorem DenAll.mono {K : PySem.W.Frag} {H H' : Hp} (e : Same H H') : ∀ {ds : List PyData} {vs : List V}, DenAll K H vs ds → DenAll K H' vs ds
  | [], _, h => by cases h; exact .nil
  | _ :: _, _, h => by
    cases h with
    | cons h1 h2 => exact .cons (Den.mono e h1) (DenAll.mono e h2)
end
mutual
theorem Den.dp {K : PySem.W.Frag} {H : Hp} : ∀ {d : PyData} {v : V}, Den K H v d → Dp K H v d
  | .none, _, h => by cases h; exact .non
  | .bool _, _, h => by cases h; exact .bl _
  | .int _, _, h => by cases h; exact .int _
  | .str _, _, h => by cases h; exact .str _
  | .list ds, _, h => by
    cases h with
    | lst hs ha => exact .lst (SqL.of hs) (DenAll.dp ha)
  | .tuple ds, _, h => by
    cases h with
    | tup hs ha => exact .tup hs (DenAll.dp ha)
  | .dict _, _, h => by cases h
theorem DenAll.dp {K : PySem.W.Frag} {H : Hp} : ∀ {ds : List PyData} {vs : List V}, DenAll K H vs ds → DpAll K H vs ds
  | [], _, h => by cases h; exact .nil
  | _ :: _, _, h => by
    cases h with
    | cons h1 h2 => exact .cons (Den.dp h1) (DenAll.dp h2)
end
theorem DenAll.length {K : PySem.W.Frag} {H : Hp} : ∀ {ds : List PyData} {vs : List V}, DenAll K H vs ds → vs.length = ds.length
  | [], _, h => by cases h; rfl
  | _ :: _, _, h => by
    cases h with
    | cons h1 h2 => rw [List.length_cons, List.length_cons, DenAll.length h2]
theorem DenAll.get {K : PySem.W.Frag} {H : Hp} : ∀ {ds : List PyData} {vs : List V} {i : Nat} {d : PyData}, DenAll K H vs ds → ds[i]? = some d → ∃ v, vs[i]? = some v ∧ Den K H v d
  | [], _, _, _, _, e => by simp at e
  | _ :: r, _, i, d, h, e => by
    cases h with
    | cons h1 h2 =>
      cases i with
      | zero => simp at e; subst e; exact ⟨_, rfl, h1⟩
      | succ i => exact DenAll.get (ds := r) (i := i) h2 (by simpa using e)
theorem DenAll.get' {K : PySem.W.Frag} {H : Hp} : ∀ {ds : List PyData} {vs : List V} {i : Nat} {v : V}, DenAll K H vs ds → vs[i]? = some v → ∃ d, ds[i]? = some d ∧ Den K H v d
  | [], _, _, _, h, e => by cases h; simp at e
  | _ :: _, _, i, v, h, e => by
    cases h with
    | cons h1 h2 =>
      cases i with
      | zero => simp at e; subst e; exact ⟨_, rfl, h1⟩
      | succ i => exact DenAll.get' (i := i) h2 (by simpa using e)
theorem DenAll.append {K : PySem.W.Frag} {H : Hp} : ∀ {ds es : List PyData} {vs ws : List V}, DenAll K H vs ds → DenAll K H ws es → DenAll K H (vs ++ ws) (ds ++ es)
  | [], _, _, _, h, q => by cases h; exact q
  | _ :: _, _, _, _, h, q => by
    cases h with
    | cons h1 h2 => exact .cons h1 (DenAll.append h2 q)
theorem DenAll.take {K : PySem.W.Frag} {H : Hp} : ∀ {ds : List PyData} {vs : List V} (n : Nat), DenAll K H vs ds → DenAll K H (vs.take n) (ds.take n)
  | _, _, 0, _ => .nil
  | [], _, _ + 1, h => by cases h; exact .nil
  | _ :: _, _, n + 1, h => by
    cases h with
    | cons h1 h2 => exact .cons h1 (DenAll.take n h2)
theorem DenAll.drop {K : PySem.W.Frag} {H : Hp} : ∀ {ds : List PyData} {vs : List V} (n : Nat), DenAll K H vs ds → DenAll K H (vs.drop n) (ds.drop n)
  | _, _, 0, h => h
  | [], _, _ + 1, h => by cases h; exact .nil
  | _ :: _, _, n + 1, h => by
    cases h with
    | cons h1 h2 => exact DenAll.drop n h2
theorem DenAll.set {K : PySem.W.Frag} {H : Hp} {v : V} {d : PyData} (q : Den K H v d) : ∀ {ds : List PyData} {vs : List V} (n : Nat), DenAll K H vs ds → DenAll K H (vs.set n v) (ds.set n d)
  | [], _, _, h => by cases h; exact .nil
  | _ :: _, _, 0, h => by
    cases h with
    | cons h1 h2 => exact .cons q h2
  | _ :: _, _, n + 1, h => by
    cases h with
    | cons h1 h2 => exact .cons h1 (DenAll.set q n h2)

end L2

namespace DL
open PySem PySem.Spec L2 GX

abbrev D := PyData
abbrev Env := List (Option D)
/-- the list of three ints from which the laws draw -/
abbrev Src := Int × Int × Int
def srcV (s : Src) : List V := [.int s.1, .int s.2.1, .int s.2.2]

/-- an activation: own: the slots whose list or dict this def alone knows; H0: the heap at the entry; ex: what it must not reach; src: where the source stands; fix: slots that stay as they are (the script, the source) -/
structure Act where
  K : PySem.W.Frag
  own : List Nat
  H0 : Hp
  ex : Addr → Prop
  src : Option Addr
  fix : List (Nat × V)
  n : Nat
  w : World
  tb : Addr → Prop

/-- what is known of a def's slots: own: those of lists and dicts that it changes; fx: those that are never stored -/
structure Slots where
  own : List Nat
  fx : List Nat
  n : Nat
  sl : Option Nat
  tb : Addr → Prop
  scr : Option (Nat × List Int) := none
structure Act.Of (A : Act) (W : Slots) : Prop where
  own : A.own = W.own
  fx : A.fix.map (·.1) = W.fx
  n : A.n = W.n
  sl : ∀ i, W.sl = some i → ∃ p, A.src = some p ∧ (i, V.ref p) ∈ A.fix
  tb : A.tb = W.tb
  scr : ∀ i ns, W.scr = some (i, ns) → ∃ a, (i, V.ref a) ∈ A.fix ∧ SqL A.K A.H0 a (ns.map V.int) ∧ ¬ (A.src = some a ∨ A.tb a) ∧ A.src = none
/-- what may be changed from outside: the source, the defs' tables -/
def Act.mv (A : Act) (a : Addr) : Prop := A.src = some a ∨ A.tb a
abbrev TabG := GxR.TabG
theorem TabG.keep {H H' : Hp} {p : Addr} (t : TabG H p) (k : ∀ o, H p = some o → H' p = some o) : TabG H' p := let ⟨ps, e, q⟩ := t; ⟨ps, k _ e, q⟩
def Act.At (A : Act) (X : Cx) : Prop := A.K = X.K ∧ A.w = X.w

def IsRoot (A : Act) (σ : St) (a : Addr) : Prop := ∃ i, i ∈ A.own ∧ σ[i]? = some (some (.ref a))
open Classical in
/-- the heap that data may lie in -/
noncomputable def fre (A : Act) (σ : St) (H : Hp) : Hp := fun a => if IsRoot A σ a ∨ A.ex a then none else H a

theorem fre_same {A : Act} {σ : St} {H : Hp} : Same (fre A σ H) H := fun a o e => by
  unfold fre at e
  split at e
  · cases e
  · exact e
theorem fre_of {A : Act} {σ : St} {H : Hp} {a : Addr} {o : HO} (h : H a = some o) (h1 : ¬ IsRoot A σ a) (h2 : ¬ A.ex a) : fre A σ H a = some o := by
  unfold fre
  rw [if_neg (fun z => z.elim h1 h2)]
  exact h
theorem fre_no {A : Act} {σ : St} {H : Hp} {a : Addr} {o : HO} (h : fre A σ H a = some o) : ¬ IsRoot A σ a ∧ ¬ A.ex a := by
  unfold fre at h
  split at h
  · cases h
  · rename_i q
    exact ⟨fun z => q (.inl z), fun z => q (.inr z)⟩
theorem fre_mono {A : Act} {σ : St} {H H' : Hp} (s : ∀ a o, H a = some o → ¬ IsRoot A σ a → ¬ A.ex a → H' a = some o) : Same (fre A σ H) (fre A σ H') := fun a o e =>
  let q := fre_no e
  fre_of (s a o (fre_same a o e) q.1 q.2) q.1 q.2

/-! ### dicts -/
def keyD : L2.Key → D
  | .inl i => .int i
  | .inr x => .str x
def tkeyD (k : List L2.Key) : D := .tuple (k.map keyD)
/-- what the def's own object at p holds: its children lie in F; a dict whose keys are ints and texts bears a mark ahead, one whose keys are tuples none -/
def HasO (K : PySem.W.Frag) (w : World) (F : Hp) (p : Addr) (o : HO) : D → Prop
  | .list ds => ∃ vs, o = .lst vs ∧ DenAll K F vs ds
  | .dict kvs => (∃ (l : List (L2.Key × V)) (r : List (D × D)), kvs = (.none, .none) :: r ∧ o = .dK l ∧ r.map (·.1) = l.map (fun p => keyD p.1) ∧ DenAll K F (l.map (·.2)) (r.map (·.2)) ∧ (l.map (·.1)).Nodup) ∨
      (∃ l : List XE, o = dxO w p l ∧ kvs.map (·.1) = l.map (fun e => tkeyD e.1) ∧ DenAll K F (l.map (·.2.2)) (kvs.map (·.2)) ∧ (l.map (·.1)).Nodup ∧ KeysIn K F l)
  | _ => False
theorem KeysIn.mono {K : PySem.W.Frag} {F F' : Hp} {l : List XE} (h : KeysIn K F l) (e : Same F F') : KeysIn K F' l := fun x hx => ⟨Same.seqT e (h x hx).1, fun z => ((h x hx).2 z).mono e⟩
theorem HasO.mono {K : PySem.W.Frag} {w : World} {F F' : Hp} {p : Addr} {o : HO} (e : Same F F') : ∀ {d : D}, HasO K w F p o d → HasO K w F' p o d
  | .list _, ⟨vs, h1, h2⟩ => ⟨vs, h1, h2.mono e⟩
  | .dict _, .inl ⟨l, r, h0, h1, h2, h3, h4⟩ => .inl ⟨l, r, h0, h1, h2, h3.mono e, h4⟩
  | .dict _, .inr ⟨l, h1, h2, h3, h4, h5⟩ => .inr ⟨l, h1, h2, h3.mono e, h4, KeysIn.mono h5 e⟩
theorem HasO.mut {K : PySem.W.Frag} {w : World} {F : Hp} {p : Addr} {o : HO} : ∀ {d : D}, HasO K w F p o d → Mut (some o)
  | .list _, ⟨vs, h1, h2⟩ => by subst h1; trivial
  | .dict _, .inl ⟨l, r, h0, h1, _⟩ => by subst h1; trivial
  | .dict _, .inr ⟨l, h1, _⟩ => by subst h1; trivial

/-- slots and heap bear the data -/
structure Rel (A : Act) (ρ : Env) (s : Src) (σ : St) (H : Hp) : Prop where
  len : ρ.length = σ.length
  nl : ρ.length = A.n
  keep : ∀ a o, A.H0 a = some o → ¬ A.mv a → H a = some o
  src : ∀ p, A.src = some p → H p = some (.lst (srcV s)) ∧ A.H0 p ≠ none ∧ A.ex p
  exin : ∀ a, A.ex a → ∃ o, H a = some o
  fix : ∀ p, p ∈ A.fix → σ[p.1]? = some (some p.2) ∧ p.1 ∉ A.own ∧ ρ[p.1]? = some none
  val : ∀ i d, ρ[i]? = some (some d) → i ∉ A.own → ∃ v, σ[i]? = some (some v) ∧ Den A.K (fre A σ H) v d
  ownv : ∀ i d, ρ[i]? = some (some d) → i ∈ A.own → ∃ p o, σ[i]? = some (some (.ref p)) ∧ H p = some o ∧ HasO A.K A.w (fre A σ H) p o d
  root : ∀ i p, i ∈ A.own → σ[i]? = some (some (.ref p)) → A.H0 p = none ∧ ¬ A.ex p ∧ ∃ o, H p = some o
  inj : ∀ i j p, i ∈ A.own → j ∈ A.own → σ[i]? = some (some (.ref p)) → σ[j]? = some (some (.ref p)) → i = j
  tabs : ∀ p, A.tb p → TabG H p ∧ A.H0 p ≠ none ∧ A.ex p

/-- an expression's step: all but the source stands -/
def Kp (A : Act) (H H' : Hp) : Prop := ∀ a o, H a = some o → ¬ A.mv a → H' a = some o
theorem Kp.refl (A : Act) (H : Hp) : Kp A H H := fun _ _ h _ => h
theorem Kp.trans {A : Act} {H H1 H2 : Hp} (a : Kp A H H1) (b : Kp A H1 H2) : Kp A H H2 := fun c o h n => b c o (a c o h n) n
theorem Kp.of {A : Act} {H H' : Hp} (s : Same H H') : Kp A H H' := fun a o h _ => s a o h
section
variable {A : Act} {ρ : Env} {s s' : Src} {σ : St} {H H' : Hp}
theorem Rel.srcEx (R : Rel A ρ s σ H) {p : Addr} (h : A.src = some p) : A.ex p := (R.src p h).2.2
theorem Rel.mvEx (R : Rel A ρ s σ H) {p : Addr} (h : A.mv p) : A.ex p := h.elim R.srcEx fun z => (R.tabs p z).2.2
theorem Rel.mvAt (R : Rel A ρ s σ H) {p : Addr} (h : A.mv p) : ∃ o, H p = some o := h.elim (fun z => ⟨_, (R.src p z).1⟩) fun z => let ⟨⟨ps, e, _⟩, _⟩ := R.tabs p z; ⟨_, e⟩
theorem Rel.sm (R : Rel A ρ s σ H) (k : Kp A H H') : Same (fre A σ H) (fre A σ H') := fre_mono fun a o h h1 h2 => k a o h fun e => h2 (R.mvEx e)
/-- more is laid -/
theorem Rel.mono (R : Rel A ρ s σ H) (e : Same H H') : Rel A ρ s σ H' where
  len := R.len
  nl := R.nl
  keep := fun a o h n => e _ _ (R.keep a o h n)
  src := fun p h => let ⟨a, b, c⟩ := R.src p h; ⟨e _ _ a, b, c⟩
  exin := fun a h => let ⟨o, q⟩ := R.exin a h; ⟨o, e _ _ q⟩
  fix := R.fix
  val := fun i d h n => let ⟨v, h1, h2⟩ := R.val i d h n; ⟨v, h1, h2.mono (R.sm (Kp.of e))⟩
  ownv := fun i d h n => let ⟨p, o, h1, h2, h3⟩ := R.ownv i d h n; ⟨p, o, h1, e _ _ h2, h3.mono (R.sm (Kp.of e))⟩
  root := fun i p h1 h2 => let ⟨a, b, o, c⟩ := R.root i p h1 h2; ⟨a, b, o, e _ _ c⟩
  inj := R.inj
  tabs := fun p h => let ⟨a, b⟩ := R.tabs p h; ⟨a.keep fun o q => e _ _ q, b⟩
/-- a new object is no root and not barred -/
theorem Rel.new (R : Rel A ρ s σ H) {p : Addr} (h : H p = none) : ¬ IsRoot A σ p ∧ ¬ A.ex p ∧ A.H0 p = none := by
  refine ⟨fun ⟨i, h1, h2⟩ => ?_, fun z => ?_, ?_⟩
  · obtain ⟨_, _, o, q⟩ := R.root i p h1 h2
    rw [h] at q; cases q
  · obtain ⟨o, q⟩ := R.exin p z
    rw [h] at q; cases q
  · cases e : A.H0 p with
    | none => rfl
    | some o =>
      by_cases hs : A.mv p
      · obtain ⟨o, this⟩ := R.mvAt hs
        rw [h] at this; cases this
      · have := R.keep p o e hs
        rw [h] at this; cases this
theorem same_upd {p : Addr} {o : HO} (h : H p = none) : Same H (upd H p o) := fun b x e => by
  rw [upd_ne (ne_of_none e h)]
  exact e
theorem Rel.at (R : Rel A ρ s σ H) {p : Addr} {o : HO} (h : H p = none) : fre A σ (upd H p o) p = some o :=
  let q := R.new h
  fre_of upd_same q.1 q.2.1
end
end DL
/-! Judgements over data, expressions. -/
namespace DL
open PySem PySem.Spec L2 GX

abbrev FE := Env → Src → Option (D × Src)
abbrev FT := Env → Src → Option (Bool × Src)
abbrev FA := Env → Src → Option (List D × Src)

theorem _root_.L2.PE.imp {X : Cx} {e : Expr} {t t' : TE} (h : PE X e t) (q : ∀ σ H Q, t' σ H Q → t σ H Q) : PE X e t' :=
  ⟨fun pins s σ H Q I hw => h.run pins s σ H Q I (q σ H Q hw)⟩
theorem _root_.L2.PT.imp {X : Cx} {e : Expr} {t t' : TT} (h : PT X e t) (q : ∀ σ H Q, t' σ H Q → t σ H Q) : PT X e t' :=
  ⟨fun pins s σ H Q I hw => h.run pins s σ H Q I (q σ H Q hw)⟩
theorem _root_.L2.PW.imp {X : Cx} {e : Expr} {t t' : TT} (h : PW X e t) (q : ∀ σ H Q, t' σ H Q → t σ H Q) : PW X e t' :=
  ⟨fun wh pins s σ H Q I hw => h.run wh pins s σ H Q I (q σ H Q hw)⟩
theorem _root_.L2.PA.imp {X : Cx} {es : List Expr} {t t' : TA} (h : PA X es t) (q : ∀ σ H Q, t' σ H Q → t σ H Q) : PA X es t' :=
  ⟨fun pos pins s σ H Q I hw => h.run pos pins s σ H Q I (q σ H Q hw)⟩
theorem _root_.L2.PS.imp {X : Cx} {e : Stmt} {t t' : TS} (h : PS X e t) (q : ∀ D σ H, t' D σ H → t D σ H) : PS X e t' :=
  ⟨fun pins s σ H Q I hw => h.run pins s σ H Q I (q Q σ H hw)⟩
theorem _root_.L2.PSs.imp {X : Cx} {e : List Stmt} {t t' : TS} (h : PSs X e t) (q : ∀ D σ H, t' D σ H → t D σ H) : PSs X e t' :=
  ⟨fun pins s σ H Q I hw => h.run pins s σ H Q I (q Q σ H hw)⟩

/-- a value whose root may be the def's own object, its parts free data -/
def Top (A : Act) (σ : L2.St) (H : Hp) (v : V) : D → Prop
  | .list ds => ∃ a vs, v = .ref a ∧ ¬ A.ex a ∧ H a = some (.lst vs) ∧ DenAll A.K (fre A σ H) vs ds
  | .dict kvs => ∃ a o, v = .ref a ∧ ¬ A.ex a ∧ H a = some o ∧ HasO A.K A.w (fre A σ H) a o (.dict kvs)
  | d => Den A.K (fre A σ H) v d
section
variable {A : Act} {ρ : Env} {s s' : Src} {σ : L2.St} {H H' : Hp} {v : V} {d : D}
theorem Top.of : ∀ {d : D}, Den A.K (fre A σ H) v d → Top A σ H v d
  | .list ds, h => by
    cases h with
    | lst hs ha => exact ⟨_, _, rfl, (fre_no hs).2, fre_same _ _ hs, ha⟩
  | .dict kvs, h => by cases h
  | .none, h => h
  | .bool _, h => h
  | .int _, h => h
  | .str _, h => h
  | .tuple _, h => h
theorem Top.keep (R : Rel A ρ s σ H) (k : Kp A H H') : ∀ {d : D}, Top A σ H v d → Top A σ H' v d
  | .list ds, ⟨a, vs, e, n, h, q⟩ => ⟨a, vs, e, n, k _ _ h fun z => n (R.mvEx z), q.mono (R.sm k)⟩
  | .dict kvs, ⟨a, o, e, n, q, z⟩ => ⟨a, o, e, n, k _ _ q fun z => n (R.mvEx z), z.mono (R.sm k)⟩
  | .none, h => Den.mono (R.sm k) h
  | .bool _, h => Den.mono (R.sm k) h
  | .int _, h => Den.mono (R.sm k) h
  | .str _, h => Den.mono (R.sm k) h
  | .tuple _, h => Den.mono (R.sm k) h
/-- as data of the whole heap -/
theorem Top.den : ∀ {d : D}, (∀ kvs, d ≠ .dict kvs) → Top A σ H v d → Den A.K H v d
  | .list ds, _, ⟨a, vs, e, n, h, q⟩ => by
    subst e
    exact .lst h (q.mono fre_same)
  | .dict kvs, n, _ => absurd rfl (n kvs)
  | .none, _, h => Den.mono fre_same h
  | .bool _, _, h => Den.mono fre_same h
  | .int _, _, h => Den.mono fre_same h
  | .str _, _, h => Den.mono fre_same h
  | .tuple _, _, h => Den.mono fre_same h
theorem Top.tuple {ds : List D} (h : Top A σ H v (.tuple ds)) : ∃ a vs, v = .ref a ∧ SqT A.K (fre A σ H) a vs ∧ DenAll A.K (fre A σ H) vs ds := by
  cases (show Den _ _ v (.tuple ds) from h) with
  | tup hs ha => exact ⟨_, _, rfl, hs, ha⟩
theorem Top.int {i : Int} (h : Top A σ H v (.int i)) : v = .int i := by cases (show Den _ _ v (.int i) from h); rfl
theorem Top.str {i : Str} (h : Top A σ H v (.str i)) : v = .str i := by cases (show Den _ _ v (.str i) from h); rfl
theorem Top.bool {i : Bool} (h : Top A σ H v (.bool i)) : v = .bl i := by cases (show Den _ _ v (.bool i) from h); rfl
theorem Top.non (h : Top A σ H v .none) : v = .non := by cases (show Den _ _ v .none from h); rfl
end
inductive TopAll (A : Act) (σ : L2.St) (H : Hp) : List V → List D → Prop
  | nil : TopAll A σ H [] []
  | cons {v vs d ds} : Top A σ H v d → TopAll A σ H vs ds → TopAll A σ H (v :: vs) (d :: ds)

/-! ### judgements -/
def tE (A : Act) (f : FE) : TE := fun σ H Q => ∃ ρ s d s', Rel A ρ s σ H ∧ f ρ s = some (d, s') ∧ ∀ v H', Rel A ρ s' σ H' → Kp A H H' → Den A.K (fre A σ H') v d → Q v H'
def tB (A : Act) (f : FE) : TE := fun σ H Q => ∃ ρ s d s', Rel A ρ s σ H ∧ f ρ s = some (d, s') ∧ ∀ v H', Rel A ρ s' σ H' → Kp A H H' → Top A σ H' v d → Q v H'
def tF (A : Act) (f : FE) : TE := fun σ H Q => ∃ ρ s d s', Rel A ρ s σ H ∧ f ρ s = some (d, s') ∧ ∀ p H1 o, Rel A ρ s' σ H1 → Kp A H H1 → H1 p = none → HasO A.K A.w (fre A σ H1) p o d → Q (.ref p) (upd H1 p o)
def tT (A : Act) (f : FT) : TT := fun σ H Q => ∃ ρ s d s', Rel A ρ s σ H ∧ f ρ s = some (d, s') ∧ ∀ H', Rel A ρ s' σ H' → Kp A H H' → Q d H'
def tA (A : Act) (f : FA) : TA := fun σ H Q => ∃ ρ s d s', Rel A ρ s σ H ∧ f ρ s = some (d, s') ∧ ∀ v H', Rel A ρ s' σ H' → Kp A H H' → DenAll A.K (fre A σ H') v d → Q v H'
def tAB (A : Act) (f : FA) : TA := fun σ H Q => ∃ ρ s d s', Rel A ρ s σ H ∧ f ρ s = some (d, s') ∧ ∀ v H', Rel A ρ s' σ H' → Kp A H H' → TopAll A σ H' v d → Q v H'
structure PD (X : Cx) (own : Slots) (e : Expr) (f : FE) : Prop where
  run : ∀ A : Act, A.At X → A.Of own → PE X e (tE A f)
structure PB (X : Cx) (own : Slots) (e : Expr) (f : FE) : Prop where
  run : ∀ A : Act, A.At X → A.Of own → PE X e (tB A f)
structure PF (X : Cx) (own : Slots) (e : Expr) (f : FE) : Prop where
  run : ∀ A : Act, A.At X → A.Of own → PE X e (tF A f)
structure PTD (X : Cx) (own : Slots) (e : Expr) (f : FT) : Prop where
  run : ∀ A : Act, A.At X → A.Of own → PT X e (tT A f)
structure PWD (X : Cx) (own : Slots) (e : Expr) (f : FT) : Prop where
  run : ∀ A : Act, A.At X → A.Of own → PW X e (tT A f)
structure PAD (X : Cx) (own : Slots) (e : List Expr) (f : FA) : Prop where
  run : ∀ A : Act, A.At X → A.Of own → PA X e (tA A f)
structure PAB (X : Cx) (own : Slots) (e : List Expr) (f : FA) : Prop where
  run : ∀ A : Act, A.At X → A.Of own → PA X e (tAB A f)

section
variable {X : Cx} {own : Slots} {e a b : Expr} {f fa fb : FE} {pos : Pos}
theorem PD.toB (h : PD X own e f) : PB X own e f := ⟨fun A hk ho => (h.run A hk ho).imp fun σ H Q ⟨ρ, s, d, s', R, hf, q⟩ => ⟨ρ, s, d, s', R, hf, fun v H' R' k z => q v H' R' k (Top.of z)⟩⟩
theorem PF.toD (h : PF X own e f) (hf : ∀ ρ s d s', f ρ s = some (d, s') → ∀ kvs, d ≠ .dict kvs := by intros; first | assumption | simp_all) : PD X own e f :=
  ⟨fun A hk ho => (h.run A hk ho).imp fun σ H Q ⟨ρ, s, d, s', R, hfd, q⟩ => ⟨ρ, s, d, s', R, hfd, fun p H1 o R1 k hp ho => by
    refine q _ _ (R1.mono (same_upd hp)) (k.trans (Kp.of (same_upd hp))) ?_
    have hd := hf ρ s d s' hfd
    cases d with
    | list ds =>
      obtain ⟨vs, e1, e2⟩ := ho
      subst e1
      exact .lst (R1.at hp) (e2.mono (R1.sm (Kp.of (same_upd hp))))
    | dict kvs => exact absurd rfl (hd kvs)
    | none => exact ho.elim
    | bool _ => exact ho.elim
    | int _ => exact ho.elim
    | str _ => exact ho.elim
    | tuple _ => exact ho.elim⟩⟩
theorem PF.toB (h : PF X own e f) : PB X own e f :=
  ⟨fun A hk ho => (h.run A hk ho).imp fun σ H Q ⟨ρ, s, d, s', R, hfd, q⟩ => ⟨ρ, s, d, s', R, hfd, fun p H1 o R1 k hp ho => by
    have ns : ¬ A.ex p := (R1.new hp).2.1
    refine q _ _ (R1.mono (same_upd hp)) (k.trans (Kp.of (same_upd hp))) ?_
    have hm := ho.mono (R1.sm (Kp.of (same_upd (o := o) hp)))
    cases d with
    | list ds =>
      obtain ⟨vs, e1, e2⟩ := hm
      subst e1
      exact ⟨p, vs, rfl, ns, upd_same, e2⟩
    | dict kvs => exact ⟨p, o, rfl, ns, upd_same, hm⟩
    | none => exact ho.elim
    | bool _ => exact ho.elim
    | int _ => exact ho.elim
    | str _ => exact ho.elim
    | tuple _ => exact ho.elim⟩⟩

/-! ### names, constants -/
def fVar (i : Nat) : FE := fun ρ s => (ρ.getD i none).map (·, s)
def fC (d : D) : FE := fun _ s => some (d, s)
theorem getD_some {ρ : Env} {i : Nat} {d : D} (h : ρ.getD i none = some d) : ρ[i]? = some (some d) := by
  rw [List.getD_eq_getElem?_getD] at h
  cases e : ρ[i]? with
  | none => rw [e] at h; cases h
  | some x => rw [e] at h; exact congrArg some h
theorem fVar_some {ρ : Env} {s s' : Src} {i : Nat} {d : D} (h : fVar i ρ s = some (d, s')) : ρ[i]? = some (some d) ∧ s' = s := by
  unfold fVar at h
  cases e : ρ.getD i none with
  | none => rw [e] at h; cases h
  | some x =>
    rw [e] at h
    cases h
    exact ⟨getD_some e, rfl⟩
theorem pd_var (i : Nat) {x : Str} (hi : own.own.contains i = false := by rfl) (hN : X.N[i]? = some x := by rfl) (hv : Vis X.env.scope x := by first | exact Or.inl rfl | exact Or.inr (Or.inl rfl) | exact Or.inr (Or.inr rfl)) (hd : (x == ("__debug__" : Str)) = false := by decide)
    (hcd : (x == ("__classdict__" : Str)) = false := by decide) : PD X own (.Name x pos) (fVar i) :=
  ⟨fun A hk ho => (pe_var hN hv hd hcd).imp fun σ H Q ⟨ρ, s, d, s', R, hf, q⟩ => by
    obtain ⟨h1, rfl⟩ := fVar_some hf
    obtain ⟨v, h2, h3⟩ := R.val i d h1 (by rw [ho.own]; simpa using hi)
    exact ⟨v, h2, q v H R (Kp.refl _ _) h3⟩⟩
theorem pb_own (i : Nat) {x : Str} (hi : own.own.contains i = true := by rfl) (hN : X.N[i]? = some x := by rfl) (hv : Vis X.env.scope x := by first | exact Or.inl rfl | exact Or.inr (Or.inl rfl) | exact Or.inr (Or.inr rfl)) (hd : (x == ("__debug__" : Str)) = false := by decide)
    (hcd : (x == ("__classdict__" : Str)) = false := by decide) : PB X own (.Name x pos) (fVar i) :=
  ⟨fun A hk ho => (pe_var hN hv hd hcd).imp fun σ H Q ⟨ρ, s, d, s', R, hf, q⟩ => by
    obtain ⟨h1, rfl⟩ := fVar_some hf
    have hi' : i ∈ A.own := by rw [ho.own]; simpa using hi
    obtain ⟨p, o, h2, h3, h4⟩ := R.ownv i d h1 hi'
    refine ⟨.ref p, h2, q _ H R (Kp.refl _ _) ?_⟩
    obtain ⟨_, nex, _⟩ := R.root i p hi' h2
    cases d with
    | list ds =>
      obtain ⟨vs, e1, e2⟩ := h4
      subst e1
      exact ⟨p, vs, rfl, nex, h3, e2⟩
    | dict kvs => exact ⟨p, o, rfl, nex, h3, h4⟩
    | none => exact h4.elim
    | bool _ => exact h4.elim
    | int _ => exact h4.elim
    | str _ => exact h4.elim
    | tuple _ => exact h4.elim⟩
theorem pd_const {v : V} {d : D} (h : PE X e (tC v)) (hd : ∀ F, Den X.K F v d) : PD X own e (fC d) :=
  ⟨fun A hk ho => h.imp fun σ H Q ⟨ρ, s, d', s', R, hf, q⟩ => by
    cases hf
    exact q v H R (Kp.refl _ _) (by rw [hk.1]; exact hd _)⟩
theorem pd_int {i j} : PD X own (.Constant (.int i) j pos) (fC (.int i)) := pd_const pe_int fun _ => .int _
theorem pd_bl {b j} : PD X own (.Constant (.bool b) j pos) (fC (.bool b)) := pd_const pe_bl fun _ => .bl _
theorem pd_non {j} : PD X own (.Constant .none j pos) (fC .none) := pd_const pe_non fun _ => .non
theorem pd_str {x j} : PD X own (.Constant (.str x) j pos) (fC (.str x)) := pd_const pe_str fun _ => .str _
theorem pd_glob {x : Str} {v : V} {u : Value} {d : D} (hm : X.mg x = some u) (r : RelV v u) (hd : ∀ F, Den X.K F v d) (hg : Gl X x := by rfl) (hdb : (x == ("__debug__" : Str)) = false := by decide) : PD X own (.Name x pos) (fC d) :=
  pd_const (pe_glob hg hm r hdb) hd

/-! ### two operands -/
def fB2 (g : D → D → Option D) (fa fb : FE) : FE := fun ρ s => (fa ρ s).bind fun x => (fb ρ x.2).bind fun y => (g x.1 y.1).map (·, y.2)
theorem fB2_some {g : D → D → Option D} {fa fb : FE} {ρ : Env} {s s' : Src} {z : D} (h : fB2 g fa fb ρ s = some (z, s')) : ∃ d s1 e, fa ρ s = some (d, s1) ∧ fb ρ s1 = some (e, s') ∧ g d e = some z := by
  unfold fB2 at h
  cases h1 : fa ρ s with
  | none => rw [h1] at h; cases h
  | some x =>
    rw [h1] at h
    cases h2 : fb ρ x.2 with
    | none => simp only [Option.bind_some, h2] at h; cases h
    | some y =>
      simp only [Option.bind_some, h2] at h
      cases h3 : g x.1 y.1 with
      | none => rw [h3] at h; cases h
      | some w =>
        rw [h3] at h
        cases h
        exact ⟨x.1, x.2, y.1, rfl, h2, h3⟩
/-- an operation by values does on data what g does -/
def BinR (X : Cx) (r : R2) (g : D → D → Option D) : Prop := ∀ (A : Act) (ρ : Env) (s : Src) (σ : L2.St) (H : Hp) (v w : V) (d e z : D) (Q : VK), A.At X → Rel A ρ s σ H → Top A σ H v d → Top A σ H w e → g d e = some z →
  (∀ u H', Same H H' → Den A.K (fre A σ H') u z → Q u H') → r v w H Q
/-- .. and the result is new -/
def BinF (X : Cx) (r : R2) (g : D → D → Option D) : Prop := ∀ (A : Act) (ρ : Env) (s : Src) (σ : L2.St) (H : Hp) (v w : V) (d e z : D) (Q : VK), A.At X → Rel A ρ s σ H → Top A σ H v d → Top A σ H w e → g d e = some z →
  (∀ p o, H p = none → HasO A.K A.w (fre A σ H) p o z → Q (.ref p) (upd H p o)) → r v w H Q
theorem tOp_of {A : Act} {r : R2} {g : D → D → Option D} (hk : A.At X) (hr : BinR X r g) : ∀ σ H Q, tE A (fB2 g fa fb) σ H Q → tOp r (tB A fa) (tB A fb) σ H Q := fun σ H Q ⟨ρ, s, z, s', R, hf, q⟩ => by
  obtain ⟨d, s1, e, h1, h2, h3⟩ := fB2_some hf
  refine ⟨ρ, s, d, s1, R, h1, fun v H1 R1 k1 t1 => ⟨ρ, s1, e, s', R1, h2, fun w H2 R2 k2 t2 => ?_⟩⟩
  exact hr A ρ s' σ H2 v w d e z Q hk R2 (t1.keep R1 k2) t2 h3 fun u H' sm hd => q u H' (R2.mono sm) ((k1.trans k2).trans (Kp.of sm)) hd
theorem tOp_ofF {A : Act} {r : R2} {g : D → D → Option D} (hk : A.At X) (hr : BinF X r g) : ∀ σ H Q, tF A (fB2 g fa fb) σ H Q → tOp r (tB A fa) (tB A fb) σ H Q := fun σ H Q ⟨ρ, s, z, s', R, hf, q⟩ => by
  obtain ⟨d, s1, e, h1, h2, h3⟩ := fB2_some hf
  refine ⟨ρ, s, d, s1, R, h1, fun v H1 R1 k1 t1 => ⟨ρ, s1, e, s', R1, h2, fun w H2 R2 k2 t2 => ?_⟩⟩
  exact hr A ρ s' σ H2 v w d e z Q hk R2 (t1.keep R1 k2) t2 h3 fun p o hp ho => q p H2 o R2 (k1.trans k2) hp ho
theorem pd_op {op : Operator} {r : R2} {g : D → D → Option D} (ho : OpR X (binaryOp op) r) (hr : BinR X r g) (ha : PB X own a fa) (hb : PB X own b fb) : PD X own (.BinOp a op b pos) (fB2 g fa fb) :=
  ⟨fun A hk hw => (pe_op ho (ha.run A hk hw) (hb.run A hk hw)).imp (tOp_of hk hr)⟩
theorem pf_op {op : Operator} {r : R2} {g : D → D → Option D} (ho : OpR X (binaryOp op) r) (hr : BinF X r g) (ha : PB X own a fa) (hb : PB X own b fb) : PF X own (.BinOp a op b pos) (fB2 g fa fb) :=
  ⟨fun A hk hw => (pe_op ho (ha.run A hk hw) (hb.run A hk hw)).imp (tOp_ofF hk hr)⟩
theorem pd_cmp {op : CmpOp} {r : R2} {g : D → D → Option D} (ho : OpR X (compareOp op) r) (hr : BinR X r g) (ha : PB X own a fa) (hb : PB X own b fb) (hm : behindInMarks op b = false := by first | exact nomark _ | rfl) : PD X own (.Compare a [op] [b] pos) (fB2 g fa fb) :=
  ⟨fun A hk hw => (pe_cmpR ho (ha.run A hk hw) (hb.run A hk hw) hm).imp (tOp_of hk hr)⟩
/-- as a test: the value is a bool -/
def fTst (f : FE) : FT := fun ρ s => (f ρ s).bind fun x => match x.1 with | .bool b => some (b, x.2) | _ => none
theorem fTst_some {f : FE} {ρ : Env} {s s' : Src} {b : Bool} (h : fTst f ρ s = some (b, s')) : f ρ s = some (.bool b, s') := by
  unfold fTst at h
  cases h1 : f ρ s with
  | none => rw [h1] at h; cases h
  | some x =>
    rw [h1] at h
    obtain ⟨d, s1⟩ := x
    cases d <;> first | cases h; rfl | (exact absurd h (by simp))
theorem tB_of {A : Act} {f : FE} : ∀ σ H Q, tT A (fTst f) σ H Q → tE A f σ H (fun x H1 => ∃ c, x = .bl c ∧ Q c H1) := fun σ H Q ⟨ρ, s, b, s', R, hf, q⟩ =>
  ⟨ρ, s, .bool b, s', R, fTst_some hf, fun v H' R' k hd => ⟨b, by cases hd; rfl, q H' R' k⟩⟩
theorem ptd_cmp {op : CmpOp} {r : R2} {g : D → D → Option D} (ho : OpR X (compareOp op) r) (hr : BinR X r g) (ha : PB X own a fa) (hb : PB X own b fb) (hm : behindInMarks op b = false := by first | exact nomark _ | rfl) : PTD X own (.Compare a [op] [b] pos) (fTst (fB2 g fa fb)) :=
  ⟨fun A hk hw => (pt_cmpR ho (ha.run A hk hw) (hb.run A hk hw) hm).imp fun σ H Q h => tOp_of hk hr _ _ _ (tB_of _ _ _ h)⟩
theorem ptd_val (h : PD X own e f) (he : ∀ whole, isTrue e X.env whole = (do let v ← whole; standAt e.pos; holding [v] (truthy v)) := by intro _; rfl) : PTD X own e (fTst f) :=
  ⟨fun A hk hw => (pt_val (h.run A hk hw) he).imp fun σ H Q q => tB_of _ _ _ q⟩

/-! ### one operand -/
def fU1 (g : D → Option D) (fa : FE) : FE := fun ρ s => (fa ρ s).bind fun x => (g x.1).map (·, x.2)
theorem fU1_some {g : D → Option D} {fa : FE} {ρ : Env} {s s' : Src} {z : D} (h : fU1 g fa ρ s = some (z, s')) : ∃ d, fa ρ s = some (d, s') ∧ g d = some z := by
  unfold fU1 at h
  cases h1 : fa ρ s with
  | none => rw [h1] at h; cases h
  | some x =>
    rw [h1] at h
    cases h3 : g x.1 with
    | none => simp only [Option.bind_some, h3] at h; cases h
    | some w =>
      simp only [Option.bind_some, h3] at h
      cases h
      exact ⟨x.1, rfl, h3⟩
def UniR (X : Cx) (r : V → Hp → VK → Prop) (g : D → Option D) : Prop := ∀ (A : Act) (ρ : Env) (s : Src) (σ : L2.St) (H : Hp) (v : V) (d z : D) (Q : VK), A.At X → Rel A ρ s σ H → Top A σ H v d → g d = some z →
  (∀ u H', Same H H' → Den A.K (fre A σ H') u z → Q u H') → r v H Q
theorem pd_un {op : UnaryOp} {r : V → Hp → VK → Prop} {g : D → Option D} (ho : UnR X (unaryOp op) r) (hr : UniR X r g) (ha : PB X own a fa) : PD X own (.UnaryOp op a pos) (fU1 g fa) :=
  ⟨fun A hk hw => (pe_un ho (ha.run A hk hw)).imp fun σ H Q ⟨ρ, s, z, s', R, hf, q⟩ => by
    obtain ⟨d, h1, h2⟩ := fU1_some hf
    exact ⟨ρ, s, d, s', R, h1, fun v H1 R1 k1 t1 => hr A ρ s' σ H1 v d z Q hk R1 t1 h2 fun u H' sm hd => q u H' (R1.mono sm) (k1.trans (Kp.of sm)) hd⟩⟩

/-! ### and, or, not, if -/
def fNot (f : FT) : FT := fun ρ s => (f ρ s).map fun x => (!x.1, x.2)
def fAnd (f g : FT) : FT := fun ρ s => (f ρ s).bind fun x => if x.1 = true then g ρ x.2 else some (false, x.2)
def fOr (f g : FT) : FT := fun ρ s => (f ρ s).bind fun x => if x.1 = true then some (true, x.2) else g ρ x.2
def fVal (f : FT) : FE := fun ρ s => (f ρ s).map fun x => (.bool x.1, x.2)
variable {t u : FT} {rest : List Expr}
theorem PWD.toT (h : PWD X own e t) : PTD X own e t := ⟨fun A hk hw => (h.run A hk hw).pt⟩
theorem pwd_and1 (ha : PTD X own a t) : PWD X own (.BoolOp .And [a] pos) t := ⟨fun A hk hw => pw_and1 (ha.run A hk hw)⟩
theorem pwd_or1 (ha : PTD X own a t) : PWD X own (.BoolOp .Or [a] pos) t := ⟨fun A hk hw => pw_or1 (ha.run A hk hw)⟩
theorem tAnd_of {A : Act} : ∀ σ H Q, tT A (fAnd t u) σ H Q → tAnd (tT A t) (tT A u) σ H Q := fun σ H Q ⟨ρ, s, b, s', R, hf, q⟩ => by
  unfold fAnd at hf
  cases h1 : t ρ s with
  | none => rw [h1] at hf; cases hf
  | some x =>
    obtain ⟨c, s1⟩ := x
    rw [h1, Option.bind_some] at hf
    refine ⟨ρ, s, c, s1, R, h1, fun H1 R1 k1 => ?_⟩
    cases c with
    | true => rw [if_pos rfl] at hf ⊢; exact ⟨ρ, s1, b, s', R1, hf, fun H2 R2 k2 => q H2 R2 (k1.trans k2)⟩
    | false => rw [if_neg Bool.false_ne_true] at hf ⊢; cases hf; exact q H1 R1 k1
theorem tOr_of {A : Act} : ∀ σ H Q, tT A (fOr t u) σ H Q → tOr (tT A t) (tT A u) σ H Q := fun σ H Q ⟨ρ, s, b, s', R, hf, q⟩ => by
  unfold fOr at hf
  cases h1 : t ρ s with
  | none => rw [h1] at hf; cases hf
  | some x =>
    obtain ⟨c, s1⟩ := x
    rw [h1, Option.bind_some] at hf
    refine ⟨ρ, s, c, s1, R, h1, fun H1 R1 k1 => ?_⟩
    cases c with
    | false => rw [if_neg Bool.false_ne_true] at hf ⊢; exact ⟨ρ, s1, b, s', R1, hf, fun H2 R2 k2 => q H2 R2 (k1.trans k2)⟩
    | true => rw [if_pos rfl] at hf ⊢; cases hf; exact q H1 R1 k1
theorem pwd_and (ha : PTD X own a t) (hb : PWD X own (.BoolOp .And (b :: rest) pos) u) : PWD X own (.BoolOp .And (a :: b :: rest) pos) (fAnd t u) :=
  ⟨fun A hk hw => (pw_and (ha.run A hk hw) (hb.run A hk hw)).imp tAnd_of⟩
theorem pwd_or (ha : PTD X own a t) (hb : PWD X own (.BoolOp .Or (b :: rest) pos) u) : PWD X own (.BoolOp .Or (a :: b :: rest) pos) (fOr t u) :=
  ⟨fun A hk hw => (pw_or (ha.run A hk hw) (hb.run A hk hw)).imp tOr_of⟩
theorem ptd_not (ha : PTD X own a t) : PTD X own (.UnaryOp .Not a pos) (fNot t) :=
  ⟨fun A hk hw => (pt_not (ha.run A hk hw)).imp fun σ H Q ⟨ρ, s, b, s', R, hf, q⟩ => by
    unfold fNot at hf
    cases h1 : t ρ s with
    | none => rw [h1] at hf; cases hf
    | some x =>
      rw [h1] at hf
      cases hf
      exact ⟨ρ, s, x.1, x.2, R, h1, fun H1 R1 k1 => q H1 R1 k1⟩⟩
/-- as values: every operand a bool -/
theorem pd_one {op} (ha : PD X own a fa) : PD X own (.BoolOp op [a] pos) fa := ⟨fun A hk hw => pe_one (ha.run A hk hw)⟩
theorem pd_and (ha : PD X own a fa) (hb : PD X own (.BoolOp .And (b :: rest) pos) fb) : PD X own (.BoolOp .And (a :: b :: rest) pos) (fVal (fAnd (fTst fa) (fTst fb))) :=
  ⟨fun A hk hw => (pe_and (ha.run A hk hw) (hb.run A hk hw)).imp fun σ H Q ⟨ρ, s, d, s', R, hf, q⟩ => by
    unfold fVal at hf
    cases h0 : fAnd (fTst fa) (fTst fb) ρ s with
    | none => rw [h0] at hf; cases hf
    | some x =>
      rw [h0] at hf
      cases hf
      unfold fAnd at h0
      cases h1 : fTst fa ρ s with
      | none => rw [h1] at h0; cases h0
      | some y =>
        obtain ⟨c, s1⟩ := y
        rw [h1, Option.bind_some] at h0
        refine ⟨ρ, s, .bool c, s1, R, fTst_some h1, fun v H1 R1 k1 hd => ?_⟩
        cases hd
        refine ⟨c, rfl, ?_⟩
        cases c with
        | true =>
          rw [if_pos rfl] at h0 ⊢
          exact ⟨ρ, s1, .bool x.1, x.2, R1, fTst_some h0, fun w H2 R2 k2 hd => q w H2 R2 (k1.trans k2) hd⟩
        | false =>
          rw [if_neg Bool.false_ne_true] at h0 ⊢
          cases h0
          exact q _ H1 R1 k1 (.bl _)⟩
theorem pd_or (ha : PD X own a fa) (hb : PD X own (.BoolOp .Or (b :: rest) pos) fb) : PD X own (.BoolOp .Or (a :: b :: rest) pos) (fVal (fOr (fTst fa) (fTst fb))) :=
  ⟨fun A hk hw => (pe_or (ha.run A hk hw) (hb.run A hk hw)).imp fun σ H Q ⟨ρ, s, d, s', R, hf, q⟩ => by
    unfold fVal at hf
    cases h0 : fOr (fTst fa) (fTst fb) ρ s with
    | none => rw [h0] at hf; cases hf
    | some x =>
      rw [h0] at hf
      cases hf
      unfold fOr at h0
      cases h1 : fTst fa ρ s with
      | none => rw [h1] at h0; cases h0
      | some y =>
        obtain ⟨c, s1⟩ := y
        rw [h1, Option.bind_some] at h0
        refine ⟨ρ, s, .bool c, s1, R, fTst_some h1, fun v H1 R1 k1 hd => ?_⟩
        cases hd
        refine ⟨c, rfl, ?_⟩
        cases c with
        | false =>
          rw [if_neg Bool.false_ne_true] at h0 ⊢
          exact ⟨ρ, s1, .bool x.1, x.2, R1, fTst_some h0, fun w H2 R2 k2 hd => q w H2 R2 (k1.trans k2) hd⟩
        | true =>
          rw [if_pos rfl] at h0 ⊢
          cases h0
          exact q _ H1 R1 k1 (.bl _)⟩
theorem pd_not (ha : PD X own a fa) : PD X own (.UnaryOp .Not a pos) (fVal (fNot (fTst fa))) :=
  ⟨fun A hk hw => (pe_not (ha.run A hk hw)).imp fun σ H Q ⟨ρ, s, d, s', R, hf, q⟩ => by
    unfold fVal fNot at hf
    cases h1 : fTst fa ρ s with
    | none => rw [h1] at hf; cases hf
    | some x =>
      rw [h1] at hf
      cases hf
      exact ⟨ρ, s, .bool x.1, x.2, R, fTst_some h1, fun v H1 R1 k1 hd => by
        cases hd
        exact ⟨x.1, rfl, q _ H1 R1 k1 (.bl _)⟩⟩⟩
def fIf (t : FT) (fa fb : FE) : FE := fun ρ s => (t ρ s).bind fun x => if x.1 = true then fa ρ x.2 else fb ρ x.2
theorem pd_ifExp {c : Expr} (hc : PTD X own c t) (ha : PD X own a fa) (hb : PD X own b fb) : PD X own (.IfExp c a b pos) (fIf t fa fb) :=
  ⟨fun A hk hw => (pe_ifExp (hc.run A hk hw) (ha.run A hk hw) (hb.run A hk hw)).imp fun σ H Q ⟨ρ, s, d, s', R, hf, q⟩ => by
    unfold fIf at hf
    cases h1 : t ρ s with
    | none => rw [h1] at hf; cases hf
    | some x =>
      obtain ⟨k, s1⟩ := x
      rw [h1, Option.bind_some] at hf
      refine ⟨ρ, s, k, s1, R, h1, fun H1 R1 k1 => ?_⟩
      cases k with
      | true => rw [if_pos rfl] at hf ⊢; exact ⟨ρ, s1, d, s', R1, hf, fun v H2 R2 k2 z => q v H2 R2 (k1.trans k2) z⟩
      | false => rw [if_neg Bool.false_ne_true] at hf ⊢; exact ⟨ρ, s1, d, s', R1, hf, fun v H2 R2 k2 z => q v H2 R2 (k1.trans k2) z⟩⟩
theorem pf_ifExp {c : Expr} (hc : PTD X own c t) (ha : PF X own a fa) (hb : PF X own b fb) : PF X own (.IfExp c a b pos) (fIf t fa fb) :=
  ⟨fun A hk hw => (pe_ifExp (hc.run A hk hw) (ha.run A hk hw) (hb.run A hk hw)).imp fun σ H Q ⟨ρ, s, d, s', R, hf, q⟩ => by
    unfold fIf at hf
    cases h1 : t ρ s with
    | none => rw [h1] at hf; cases hf
    | some x =>
      obtain ⟨k, s1⟩ := x
      rw [h1, Option.bind_some] at hf
      refine ⟨ρ, s, k, s1, R, h1, fun H1 R1 k1 => ?_⟩
      cases k with
      | true => rw [if_pos rfl] at hf ⊢; exact ⟨ρ, s1, d, s', R1, hf, fun p H2 o R2 k2 z w => q p H2 o R2 (k1.trans k2) z w⟩
      | false => rw [if_neg Bool.false_ne_true] at hf ⊢; exact ⟨ρ, s1, d, s', R1, hf, fun p H2 o R2 k2 z w => q p H2 o R2 (k1.trans k2) z w⟩⟩
theorem pb_ifExp {c : Expr} (hc : PTD X own c t) (ha : PB X own a fa) (hb : PB X own b fb) : PB X own (.IfExp c a b pos) (fIf t fa fb) :=
  ⟨fun A hk hw => (pe_ifExp (hc.run A hk hw) (ha.run A hk hw) (hb.run A hk hw)).imp fun σ H Q ⟨ρ, s, d, s', R, hf, q⟩ => by
    unfold fIf at hf
    cases h1 : t ρ s with
    | none => rw [h1] at hf; cases hf
    | some x =>
      obtain ⟨k, s1⟩ := x
      rw [h1, Option.bind_some] at hf
      refine ⟨ρ, s, k, s1, R, h1, fun H1 R1 k1 => ?_⟩
      cases k with
      | true => rw [if_pos rfl] at hf ⊢; exact ⟨ρ, s1, d, s', R1, hf, fun v H2 R2 k2 z => q v H2 R2 (k1.trans k2) z⟩
      | false => rw [if_neg Bool.false_ne_true] at hf ⊢; exact ⟨ρ, s1, d, s', R1, hf, fun v H2 R2 k2 z => q v H2 R2 (k1.trans k2) z⟩⟩

/-! ### argument lists, displays -/
def fNil : FA := fun _ s => some ([], s)
def fCons (f : FE) (g : FA) : FA := fun ρ s => (f ρ s).bind fun x => (g ρ x.2).map fun y => (x.1 :: y.1, y.2)
theorem fCons_some {f : FE} {g : FA} {ρ : Env} {s s' : Src} {ds : List D} (h : fCons f g ρ s = some (ds, s')) : ∃ d s1 es, f ρ s = some (d, s1) ∧ g ρ s1 = some (es, s') ∧ ds = d :: es := by
  unfold fCons at h
  cases h1 : f ρ s with
  | none => rw [h1] at h; cases h
  | some x =>
    rw [h1] at h
    cases h2 : g ρ x.2 with
    | none => simp only [Option.bind_some, h2] at h; cases h
    | some y =>
      simp only [Option.bind_some, h2] at h
      cases h
      exact ⟨x.1, x.2, y.1, rfl, h2, rfl⟩
variable {es : List Expr} {g : FA}
theorem pad_nil : PAD X own [] fNil := ⟨fun A hk hw => pa_nil.imp fun σ H Q ⟨ρ, s, d, s', R, hf, q⟩ => by cases hf; exact q [] H R (Kp.refl _ _) .nil⟩
theorem pad_cons (ha : PD X own e f) (hr : PAD X own es g) (hs : starEach (e :: es) X.env = (false, eval e X.env) :: starEach es X.env := by rfl) : PAD X own (e :: es) (fCons f g) :=
  ⟨fun A hk hw => (pa_cons (ha.run A hk hw) (hr.run A hk hw) hs).imp fun σ H Q ⟨ρ, s, ds, s', R, hf, q⟩ => by
    obtain ⟨d, s1, es, h1, h2, rfl⟩ := fCons_some hf
    exact ⟨ρ, s, d, s1, R, h1, fun v H1 R1 k1 t1 => ⟨ρ, s1, es, s', R1, h2, fun vs H2 R2 k2 t2 => q _ H2 R2 (k1.trans k2) (.cons (Den.mono (R1.sm k2) t1) t2)⟩⟩⟩
theorem pab_nil : PAB X own [] fNil := ⟨fun A hk hw => pa_nil.imp fun σ H Q ⟨ρ, s, d, s', R, hf, q⟩ => by cases hf; exact q [] H R (Kp.refl _ _) .nil⟩
theorem pab_cons (ha : PB X own e f) (hr : PAB X own es g) (hs : starEach (e :: es) X.env = (false, eval e X.env) :: starEach es X.env := by rfl) : PAB X own (e :: es) (fCons f g) :=
  ⟨fun A hk hw => (pa_cons (ha.run A hk hw) (hr.run A hk hw) hs).imp fun σ H Q ⟨ρ, s, ds, s', R, hf, q⟩ => by
    obtain ⟨d, s1, es, h1, h2, rfl⟩ := fCons_some hf
    exact ⟨ρ, s, d, s1, R, h1, fun v H1 R1 k1 t1 => ⟨ρ, s1, es, s', R1, h2, fun vs H2 R2 k2 t2 => q _ H2 R2 (k1.trans k2) (.cons (t1.keep R1 k2) t2)⟩⟩⟩
/-- (a, ..): at most 64 written items -/
def fTup (g : FA) : FE := fun ρ s => (g ρ s).bind fun x => if x.1.length ≤ 64 then some (.tuple x.1, x.2) else none
def fLst (g : FA) : FE := fun ρ s => (g ρ s).bind fun x => if x.1.length ≤ 64 then some (.list x.1, x.2) else none
theorem small64 {n : Nat} (h : n ≤ 64) : n ≤ sizeLine := Nat.le_trans h (by decide)
theorem pd_tup {x1} (h : PAD X own es g) : PD X own (.Tuple es x1 pos) (fTup g) :=
  ⟨fun A hk hw => (pe_tupF (h.run A hk hw)).imp fun σ H Q ⟨ρ, s, d, s', R, hf, q⟩ => by
    unfold fTup at hf
    cases h1 : g ρ s with
    | none => rw [h1] at hf; cases hf
    | some x =>
      rw [h1, Option.bind_some] at hf
      split at hf
      · rename_i hl
        cases hf
        refine ⟨ρ, s, x.1, x.2, R, h1, fun vs H1 R1 k1 t1 => ⟨by rw [t1.length]; exact small64 hl, fun p us hp => ?_⟩⟩
        exact q _ _ (R1.mono (same_upd hp)) (k1.trans (Kp.of (same_upd hp))) (.tup (.inl (.inr ⟨_, R1.at hp⟩)) (t1.mono (R1.sm (Kp.of (same_upd hp)))) fun _ => .inl ⟨_, _, R1.at hp, rfl⟩)
      · cases hf⟩
theorem pf_lst (h : PAD X own es g) : PF X own (.List es pos) (fLst g) :=
  ⟨fun A hk hw => (pe_lst (h.run A hk hw)).imp fun σ H Q ⟨ρ, s, d, s', R, hf, q⟩ => by
    unfold fLst at hf
    cases h1 : g ρ s with
    | none => rw [h1] at hf; cases hf
    | some x =>
      rw [h1, Option.bind_some] at hf
      split at hf
      · rename_i hl
        cases hf
        refine ⟨ρ, s, x.1, x.2, R, h1, fun vs H1 R1 k1 t1 => ⟨by rw [t1.length]; exact small64 hl, fun p hp => ?_⟩⟩
        exact q p H1 _ R1 k1 hp ⟨vs, rfl, t1⟩
      · cases hf⟩
theorem fLst_nodict {g : FA} : ∀ ρ s d s', fLst g ρ s = some (d, s') → ∀ kvs, d ≠ .dict kvs := fun ρ s d s' h kvs e => by
  unfold fLst at h
  cases h1 : g ρ s with
  | none => rw [h1] at h; cases h
  | some x =>
    rw [h1, Option.bind_some] at h
    split at h
    · subst e; cases h
    · cases h
end
end DL
/-! Operations on data. -/
namespace DL
open PySem PySem.Spec L2 GX

/-! ### ints -/
def dI (c : Int → Int → Bool) (g : Int → Int → D) : D → D → Option D
  | .int i, .int j => if c i j = true then some (g i j) else none
  | _, _ => none
def cDiv (i j : Int) : Bool := decide (0 < j) && decide (j.natAbs.log2 < 9000)
def cMod (_ j : Int) : Bool := decide (0 < j)
def cMul (i j : Int) : Bool := decide (i.natAbs.log2 + j.natAbs.log2 < 1000000)
def cPow (i j : Int) : Bool := decide (0 ≤ j) && decide (j ≤ 1000000) && decide (i.natAbs < 2 ^ 64)
def dSub := dI (fun _ _ => true) fun i j => .int (i - j)
def dMulI := dI cMul fun i j => .int (i * j)
def dDiv := dI cDiv fun i j => .int (i / j)
def dMod := dI cMod fun i j => .int (i % j)
def dPow := dI cPow fun i j => .int (i ^ j.toNat)
def dLtI := dI (fun _ _ => true) fun i j => .bool (decide (i < j))
def dLe := dI (fun _ _ => true) fun i j => .bool (decide (i ≤ j))
def dGt := dI (fun _ _ => true) fun i j => .bool (decide (j < i))
def dGe := dI (fun _ _ => true) fun i j => .bool (decide (j ≤ i))
theorem dI_some {c : Int → Int → Bool} {g : Int → Int → D} {d e z : D} (h : dI c g d e = some z) : ∃ i j, d = .int i ∧ e = .int j ∧ c i j = true ∧ g i j = z := by
  unfold dI at h
  split at h
  · split at h
    · rename_i i j hc
      exact ⟨_, _, rfl, rfl, hc, Option.some.inj h⟩
    · cases h
  · cases h
section
variable {X : Cx}
/-- what an int operation hands back -/
inductive Flat : V → D → Prop
  | int (i) : Flat (.int i) (.int i)
  | bl (b) : Flat (.bl b) (.bool b)
theorem Flat.den {K : PySem.W.Frag} {F : Hp} {v : V} {d : D} (h : Flat v d) : Den K F v d := by
  cases h with
  | int i => exact .int i
  | bl b => exact .bl b
theorem bin_i {c : Int → Int → Bool} {C : Int → Int → Prop} {gv : Int → Int → V} {g : Int → Int → D} (hc : ∀ i j, c i j = true → C i j) (hg : ∀ i j, Flat (gv i j) (g i j)) : BinR X (rI C gv) (dI c g) := fun A ρ s σ H v w d e z Q hk R t1 t2 hz q => by
  obtain ⟨i, j, rfl, rfl, h1, rfl⟩ := dI_some hz
  exact ⟨i, j, t1.int, t2.int, hc i j h1, q _ H (Same.refl H) (hg i j).den⟩
theorem bin_i0 {gv : Int → Int → V} {g : Int → Int → D} (hg : ∀ i j, Flat (gv i j) (g i j)) : BinR X (rI0 gv) (dI (fun _ _ => true) g) := fun A ρ s σ H v w d e z Q hk R t1 t2 hz q => by
  obtain ⟨i, j, rfl, rfl, h1, rfl⟩ := dI_some hz
  exact ⟨i, j, t1.int, t2.int, q _ H (Same.refl H) (hg i j).den⟩
theorem bn_sub : BinR X (rI0 fun i j => .int (i - j)) dSub := bin_i0 fun _ _ => .int _
theorem bn_mul : BinR X (rI CMulW fun i j => .int (i * j)) dMulI := bin_i (fun i j h => by unfold cMul at h; exact show i.natAbs.log2 + j.natAbs.log2 < 1000000 from of_decide_eq_true h) fun _ _ => .int _
theorem bn_div : BinR X (rI CDivW fun i j => .int (i / j)) dDiv := bin_i (fun i j h => by unfold cDiv at h; simp only [Bool.and_eq_true, decide_eq_true_eq] at h; exact h) fun _ _ => .int _
theorem bn_mod : BinR X (rI (fun _ j => 0 < j) fun i j => .int (i % j)) dMod := bin_i (fun i j h => by unfold cMod at h; exact of_decide_eq_true h) fun _ _ => .int _
theorem bn_pow : BinR X (rI CPow fun i j => .int (i ^ j.toNat)) dPow := bin_i (fun i j h => by unfold cPow at h; simp only [Bool.and_eq_true, decide_eq_true_eq] at h; exact ⟨h.1.1, h.1.2, h.2⟩) fun _ _ => .int _
theorem bn_ltI : BinR X (rI0 fun i j => .bl (decide (i < j))) dLtI := bin_i0 fun _ _ => .bl _
theorem bn_le : BinR X (rI0 fun i j => .bl (decide (i ≤ j))) dLe := bin_i0 fun _ _ => .bl _
theorem bn_gt : BinR X (rI0 fun i j => .bl (decide (j < i))) dGt := bin_i0 fun _ _ => .bl _
theorem bn_ge : BinR X (rI0 fun i j => .bl (decide (j ≤ i))) dGe := bin_i0 fun _ _ => .bl _
def dNeg : D → Option D
  | .int i => some (.int (-i))
  | _ => none
theorem un_negD : UniR X (rU fun i => .int (-i)) dNeg := fun A ρ s σ H v d z Q hk R t hz q => by
  unfold dNeg at hz
  split at hz
  · cases hz
    exact ⟨_, t.int, q _ H (Same.refl H) (.int _)⟩
  · cases hz

/-! ### + -/
def dAdd : D → D → Option D
  | .int i, .int j => some (.int (i + j))
  | .str a, .str b => if a.length + b.length ≤ sizeLine then some (.str (a ++ b)) else none
  | .tuple xs, .tuple ys => if xs.length + ys.length ≤ sizeLine then some (.tuple (xs ++ ys)) else none
  | _, _ => none
def rAdd : R2 := fun x y H Q => (rI0 fun i j => .int (i + j)) x y H Q
theorem den_tup {A : Act} {ρ : Env} {s : Src} {σ : L2.St} {H : Hp} {p : Addr} {vs : List V} {ds : List D} (R : Rel A ρ s σ H) (hp : H p = none) (h : DenAll A.K (fre A σ H) vs ds) (np : pl ds = false) : Den A.K (fre A σ (upd H p (.tup vs))) (.ref p) (.tuple ds) :=
  .tup (.inl (.inl (R.at hp))) (h.mono (R.sm (Kp.of (same_upd hp)))) fun z => by rw [np] at z; cases z
theorem den_tupF {A : Act} {ρ : Env} {s : Src} {σ : L2.St} {H : Hp} {p : Addr} {vs : List V} {ds : List D} {us : List Value} (R : Rel A ρ s σ H) (hp : H p = none) (h : DenAll A.K (fre A σ H) vs ds) : Den A.K (fre A σ (upd H p (ftup us vs))) (.ref p) (.tuple ds) :=
  .tup (.inl (.inr ⟨_, R.at hp⟩)) (h.mono (R.sm (Kp.of (same_upd hp)))) fun _ => .inl ⟨_, _, R.at hp, rfl⟩
theorem seqT_fre {A : Act} {σ : L2.St} {H : Hp} {a : Addr} {vs : List V} (h : SqT A.K (fre A σ H) a vs) : SqT A.K H a vs := Same.seqT fre_same h
def rAddD (K : PySem.W.Frag) : R2 := fun x y H Q => (rI0 fun i j => .int (i + j)) x y H Q ∨ ((∃ i j, x = .str i ∧ y = .str j ∧ i.length + j.length ≤ sizeLine ∧ Q (.str (i ++ j)) H) ∨ rCatF K x y H Q)
theorem op_addD : OpR X (binaryOp .Add) (rAddD X.K) := op_add.or (op_add_str.or op_catF)
theorem bn_add : BinR X (rAddD X.K) dAdd := fun A ρ s σ H v w d e z Q hk R t1 t2 hz q => by
  unfold dAdd at hz
  split at hz
  · cases hz
    exact .inl ⟨_, _, t1.int, t2.int, q _ H (Same.refl H) (.int _)⟩
  · split at hz
    · rename_i hl
      cases hz
      exact .inr (.inl ⟨_, _, t1.str, t2.str, hl, q _ H (Same.refl H) (.str _)⟩)
    · cases hz
  · split at hz
    · rename_i xs ys hl
      cases hz
      obtain ⟨a, vs, rfl, ha, da⟩ := t1.tuple
      obtain ⟨b, ws, rfl, hb, db⟩ := t2.tuple
      refine .inr (.inr ⟨a, b, vs, ws, rfl, rfl, hk.1 ▸ seqT_fre ha, hk.1 ▸ seqT_fre hb, by rw [da.length, db.length]; exact hl, fun e1 => ?_, fun _ e2 => ?_, fun _ _ p us hp => ?_⟩)
      · subst e1
        cases da
        exact q _ H (Same.refl H) t2
      · subst e2
        cases db
        rw [List.append_nil] at q
        exact q _ H (Same.refl H) t1
      · exact q _ _ (same_upd hp) (den_tupF R hp (da.append db))
    · cases hz
  · cases hz
/-- list + list: new -/
def dCat : D → D → Option D
  | .list xs, .list ys => if xs.length + ys.length ≤ sizeLine then some (.list (xs ++ ys)) else none
  | _, _ => none
theorem Top.list {A : Act} {σ : L2.St} {H : Hp} {v : V} {ds : List D} (h : Top A σ H v (.list ds)) : ∃ a vs, v = .ref a ∧ ¬ A.ex a ∧ H a = some (.lst vs) ∧ DenAll A.K (fre A σ H) vs ds := h
theorem bf_cat : BinF X rCat dCat := fun A ρ s σ H v w d e z Q hk R t1 t2 hz q => by
  unfold dCat at hz
  split at hz
  · split at hz
    · rename_i xs ys hl
      cases hz
      obtain ⟨a, vs, rfl, _, ha, da⟩ := t1.list
      obtain ⟨b, ws, rfl, _, hb, db⟩ := t2.list
      exact ⟨a, b, vs, ws, rfl, rfl, ha, hb, by rw [da.length, db.length]; exact hl, fun p hp => q p _ hp ⟨_, rfl, da.append db⟩⟩
    · cases hz
  · cases hz
/-- list * int -/
def dRep : D → D → Option D
  | .list xs, .int k => if (-(2 ^ 63) ≤ k ∧ k < 2 ^ 63) ∧ xs.length * k.toNat ≤ sizeLine then some (.list (List.replicate k.toNat xs).flatten) else none
  | _, _ => none
theorem den_rep {K : PySem.W.Frag} {F : Hp} {vs : List V} {ds : List D} (h : DenAll K F vs ds) (n : Nat) : DenAll K F (List.replicate n vs).flatten (List.replicate n ds).flatten := by
  induction n with
  | zero => exact .nil
  | succ n ih =>
    rw [List.replicate_succ, List.replicate_succ, List.flatten_cons, List.flatten_cons]
    exact h.append ih
theorem bf_rep : BinF X rRep dRep := fun A ρ s σ H v w d e z Q hk R t1 t2 hz q => by
  unfold dRep at hz
  split at hz
  · split at hz
    · rename_i xs k hl
      cases hz
      obtain ⟨a, vs, rfl, _, ha, da⟩ := t1.list
      have := t2.int
      subst this
      exact ⟨a, k, vs, rfl, rfl, ha, hl.1.1, hl.1.2, by rw [da.length]; exact hl.2, fun p hp => q p _ hp ⟨_, rfl, den_rep da _⟩⟩
    · cases hz
  · cases hz

/-! ### ==, != -/
def isDict : D → Bool
  | .dict _ => true
  | _ => false
def shp (d : D) : Bool := SeqAt.shaped d && !isDict d
def dEq (d e : D) : Option D := if (shp d && shp e) = true then some (.bool (PyData.eqv d e)) else none
def dNe (d e : D) : Option D := if (shp d && shp e) = true then some (.bool (!PyData.eqv d e)) else none
theorem shp_and {d e : D} (h : (shp d && shp e) = true) : SeqAt.shaped d = true ∧ SeqAt.shaped e = true ∧ (∀ k, d ≠ .dict k) ∧ ∀ k, e ≠ .dict k := by
  unfold shp at h
  simp only [Bool.and_eq_true, Bool.not_eq_true'] at h
  refine ⟨h.1.1, h.2.1, fun k q => ?_, fun k q => ?_⟩
  · subst q; exact absurd h.1.2 (by simp [isDict])
  · subst q; exact absurd h.2.2 (by simp [isDict])
theorem bn_eq : BinR X (rEqD X.K) dEq := fun A ρ s σ H v w d e z Q hk R t1 t2 hz q => by
  unfold dEq at hz
  split at hz
  · rename_i h
    cases hz
    obtain ⟨h1, h2, h3, h4⟩ := shp_and h
    exact ⟨d, e, hk.1 ▸ (t1.den h3).dp, hk.1 ▸ (t2.den h4).dp, h1, h2, q _ H (Same.refl H) (.bl _)⟩
  · cases hz
theorem bn_ne : BinR X (rNeD X.K) dNe := fun A ρ s σ H v w d e z Q hk R t1 t2 hz q => by
  unfold dNe at hz
  split at hz
  · rename_i h
    cases hz
    obtain ⟨h1, h2, h3, h4⟩ := shp_and h
    exact ⟨d, e, hk.1 ▸ (t1.den h3).dp, hk.1 ▸ (t2.den h4).dp, h1, h2, q _ H (Same.refl H) (.bl _)⟩
  · cases hz
/-- is None -/
def isNonD : D → Bool
  | .none => true
  | _ => false
def dIsN (d e : D) : Option D := if isNonD e = true then some (.bool (isNonD d)) else none
def dNotN (d e : D) : Option D := if isNonD e = true then some (.bool (!isNonD d)) else none
theorem top_non {A : Act} {σ : L2.St} {H : Hp} {v : V} {d : D} (t : Top A σ H v d) : decide (v = .non) = isNonD d := by
  cases d with
  | none => have e := t.non; subst e; rfl
  | bool b => have e := t.bool; subst e; rfl
  | int i => have e := t.int; subst e; rfl
  | str x => have e := t.str; subst e; rfl
  | list ds => obtain ⟨a, _, rfl, _⟩ := t.list; rfl
  | tuple ds => obtain ⟨a, _, rfl, _⟩ := t.tuple; rfl
  | dict k => obtain ⟨a, _, rfl, _⟩ := (show ∃ a o, v = .ref a ∧ _ from t); rfl
theorem nonD_of {e : D} (h : isNonD e = true) : e = .none := by
  cases e <;> first | rfl | cases h
theorem bn_isN : BinR X (fun x y H Q => y = .non ∧ Q (.bl (decide (x = .non))) H) dIsN := fun A ρ s σ H v w d e z Q hk R t1 t2 hz q => by
  unfold dIsN at hz
  split at hz
  · rename_i h
    cases hz
    have h' := nonD_of h
    subst h'
    refine ⟨t2.non, ?_⟩
    rw [top_non t1]
    exact q _ H (Same.refl H) (.bl _)
  · cases hz
theorem bn_notN : BinR X (fun x y H Q => y = .non ∧ Q (.bl (!decide (x = .non))) H) dNotN := fun A ρ s σ H v w d e z Q hk R t1 t2 hz q => by
  unfold dNotN at hz
  split at hz
  · rename_i h
    cases hz
    have h' := nonD_of h
    subst h'
    refine ⟨t2.non, ?_⟩
    rw [top_non t1]
    exact q _ H (Same.refl H) (.bl _)
  · cases hz

/-! ### in -/
def flatD : D → Bool
  | .none | .bool _ | .int _ | .str _ => true
  | _ => false
def itemsD : D → Option (List D)
  | .list ds => some ds
  | .tuple ds => some ds
  | _ => none
def dIn (d e : D) : Option D := (itemsD e).bind fun ds => if (flatD d && ds.all flatD) = true then some (.bool (ds.any fun y => PyData.eqv y d)) else none
def dNotIn (d e : D) : Option D := (itemsD e).bind fun ds => if (flatD d && ds.all flatD) = true then some (.bool (!ds.any fun y => PyData.eqv y d)) else none
theorem flat_V {K : PySem.W.Frag} {F : Hp} {v : V} {d : D} (h : Den K F v d) (f : flatD d = true) : flatV v = true := by
  cases h <;> first | rfl | cases f
theorem flat_eq {K : PySem.W.Frag} {F : Hp} {v w : V} {d e : D} (h : Den K F v d) (f : flatD d = true) (h' : Den K F w e) (f' : flatD e = true) : eqV v w = PyData.eqv d e := by
  cases h with
  | lst _ _ => cases f
  | tup _ _ => cases f
  | non =>
    cases h' with
    | lst _ _ => cases f'
    | tup _ _ => cases f'
    | non => simp only [eqV, PyData.eqv]
    | bl b => simp only [eqV, PyData.eqv]
    | int b => simp only [eqV, PyData.eqv]
    | str b => simp only [eqV, PyData.eqv]
  | bl a =>
    cases h' with
    | lst _ _ => cases f'
    | tup _ _ => cases f'
    | non => simp only [eqV, PyData.eqv]
    | bl b => simp only [eqV, PyData.eqv]
    | int b => simp only [eqV, PyData.eqv]
    | str b => simp only [eqV, PyData.eqv]
  | int a =>
    cases h' with
    | lst _ _ => cases f'
    | tup _ _ => cases f'
    | non => simp only [eqV, PyData.eqv]
    | bl b => simp only [eqV, PyData.eqv]
    | int b => simp only [eqV, PyData.eqv]
    | str b => simp only [eqV, PyData.eqv]
  | str a =>
    cases h' with
    | lst _ _ => cases f'
    | tup _ _ => cases f'
    | non => simp only [eqV, PyData.eqv]
    | bl b => simp only [eqV, PyData.eqv]
    | int b => simp only [eqV, PyData.eqv]
    | str b => simp only [eqV, PyData.eqv]
theorem inV_of {K : PySem.W.Frag} {F : Hp} {v : V} {d : D} (h : Den K F v d) (f : flatD d = true) : ∀ {ds : List D} {vs : List V}, DenAll K F vs ds → ds.all flatD = true → vs.all flatV = true ∧ inV v vs = ds.any fun y => PyData.eqv y d
  | [], _, hs, _ => by cases hs; exact ⟨rfl, rfl⟩
  | e :: ds, _, hs, fs => by
    cases hs with
    | cons h1 h2 =>
      rw [List.all_cons, Bool.and_eq_true] at fs
      obtain ⟨i1, i2⟩ := inV_of h f h2 fs.2
      refine ⟨by rw [List.all_cons, flat_V h1 fs.1, i1]; rfl, ?_⟩
      unfold inV at i2 ⊢
      rw [List.any_cons, List.any_cons, i2, flat_eq h1 fs.1 h f]
theorem top_items {A : Act} {σ : L2.St} {H : Hp} {v : V} {d : D} {ds : List D} (t : Top A σ H v d) (h : itemsD d = some ds) : ∃ p vs, v = .ref p ∧ (SqL A.K H p vs ∨ SqT A.K H p vs) ∧ DenAll A.K (fre A σ H) vs ds := by
  unfold itemsD at h
  split at h
  · cases h
    obtain ⟨a, vs, rfl, _, h1, h2⟩ := t.list
    exact ⟨a, vs, rfl, .inl (SqL.of h1), h2⟩
  · cases h
    obtain ⟨a, vs, rfl, h1, h2⟩ := t.tuple
    exact ⟨a, vs, rfl, .inr (seqT_fre h1), h2⟩
  · cases h
theorem top_flat {A : Act} {σ : L2.St} {H : Hp} {v : V} {d : D} (t : Top A σ H v d) (f : flatD d = true) : Den A.K (fre A σ H) v d := by
  cases d <;> first | exact t | cases f
theorem bn_in : BinR X (rIn X.K false) dIn := fun A ρ s σ H v w d e z Q hk R t1 t2 hz q => by
  unfold dIn at hz
  cases hi : itemsD e with
  | none => rw [hi] at hz; cases hz
  | some ds =>
    rw [hi, Option.bind_some] at hz
    split at hz
    · rename_i hf
      cases hz
      rw [Bool.and_eq_true] at hf
      obtain ⟨p, vs, rfl, h1, h2⟩ := top_items t2 hi
      have h3 := top_flat t1 hf.1
      obtain ⟨i1, i2⟩ := inV_of h3 hf.1 h2 hf.2
      refine ⟨p, vs, rfl, hk.1 ▸ h1, flat_V h3 hf.1, i1, ?_⟩
      rw [if_neg Bool.false_ne_true, i2]
      exact q _ H (Same.refl H) (.bl _)
    · cases hz
theorem bn_notIn : BinR X (rIn X.K true) dNotIn := fun A ρ s σ H v w d e z Q hk R t1 t2 hz q => by
  unfold dNotIn at hz
  cases hi : itemsD e with
  | none => rw [hi] at hz; cases hz
  | some ds =>
    rw [hi, Option.bind_some] at hz
    split at hz
    · rename_i hf
      cases hz
      rw [Bool.and_eq_true] at hf
      obtain ⟨p, vs, rfl, h1, h2⟩ := top_items t2 hi
      have h3 := top_flat t1 hf.1
      obtain ⟨i1, i2⟩ := inV_of h3 hf.1 h2 hf.2
      refine ⟨p, vs, rfl, hk.1 ▸ h1, flat_V h3 hf.1, i1, ?_⟩
      rw [if_pos rfl, i2]
      exact q _ H (Same.refl H) (.bl _)
    · cases hz

/-! ### subscripts, slices -/
def dIx : D → D → Option D
  | .list ds, .int i => atI ds i
  | .tuple ds, .int i => atI ds i
  | _, _ => none
theorem _root_.L2.DenAll.atI {K : PySem.W.Frag} {F : Hp} {ds : List D} {vs : List V} {i : Int} {d : D} (h : DenAll K F vs ds) (e : L2.atI ds i = some d) : ∃ v, L2.atI vs i = some v ∧ Den K F v d := by
  unfold L2.atI at e ⊢
  rw [h.length]
  cases hj : ixN ds.length i with
  | none => rw [hj] at e; cases e
  | some j =>
    rw [hj, Option.bind_some] at e
    rw [Option.bind_some]
    exact h.get e
theorem bn_ix : BinR X (fun x y H Q => rIxL X.K x y H Q ∨ rIxT X.K x y H Q) dIx := fun A ρ s σ H v w d e z Q hk R t1 t2 hz q => by
  unfold dIx at hz
  split at hz
  · obtain ⟨a, vs, rfl, _, h1, h2⟩ := t1.list
    obtain ⟨x, h3, h4⟩ := h2.atI hz
    exact .inl ⟨a, vs, _, x, rfl, t2.int, SqL.of h1, h3, q _ H (Same.refl H) h4⟩
  · obtain ⟨a, vs, rfl, h1, h2⟩ := t1.tuple
    obtain ⟨x, h3, h4⟩ := h2.atI hz
    exact .inr ⟨a, vs, _, x, rfl, t2.int, hk.1 ▸ seqT_fre h1, h3, q _ H (Same.refl H) h4⟩
  · cases hz
variable {own : Slots} {e a b lo hi : Expr} {f fa fb fl fh : FE} {pos p2 : Pos}
theorem pd_ix (ha : PB X own a fa) (hb : PB X own b fb) (hs : PlainIx b := by intro _ _; rfl) : PD X own (.Subscript a b pos) (fB2 dIx fa fb) :=
  ⟨fun A hk hw => (pe_ix (ix_list.or ix_tup) (ha.run A hk hw) (hb.run A hk hw) hs).imp (tOp_of hk bn_ix)⟩
/-- a[lo:hi] -/
def cutD (xs : List D) (lo hi : Option Int) : List D := (xs.drop (HT.sIx xs.length 0 lo)).take (HT.sIx xs.length xs.length hi - HT.sIx xs.length 0 lo)
theorem _root_.L2.DenAll.cut {K : PySem.W.Frag} {F : Hp} {ds : List D} {vs : List V} (h : DenAll K F vs ds) (lo hi : Option Int) : DenAll K F (cutV vs lo hi) (cutD ds lo hi) := by
  unfold cutV cutD
  rw [h.length]
  exact (h.drop _).take _
/-- a part of a slice, an int or none -/
abbrev FO := Env → Src → Option (Option Int × Src)
def tO (A : Act) (f : FO) : TO := fun σ H Q => ∃ ρ s d s', Rel A ρ s σ H ∧ f ρ s = some (d, s') ∧ ∀ H', Rel A ρ s' σ H' → Kp A H H' → Q d H'
structure POD (X : Cx) (own : Slots) (e : Option Expr) (f : FO) : Prop where
  run : ∀ A : Act, A.At X → A.Of own → PO X e (tO A f)
def fNoPart : FO := fun _ s => some (none, s)
def fPart (f : FE) : FO := fun ρ s => (f ρ s).bind fun x => match x.1 with | .int i => some (some i, x.2) | _ => none
theorem _root_.L2.PO.imp {X : Cx} {e : Option Expr} {t t' : TO} (h : PO X e t) (q : ∀ σ H Q, t' σ H Q → t σ H Q) : PO X e t' := ⟨fun pins s σ H Q I hw => h.run pins s σ H Q I (q σ H Q hw)⟩
theorem pod_none : POD X own none fNoPart := ⟨fun A hk hw => po_none.imp fun σ H Q ⟨ρ, s, d, s', R, hf, q⟩ => by cases hf; exact q H R (Kp.refl _ _)⟩
theorem pod_some (h : PD X own e f) : POD X own (some e) (fPart f) := ⟨fun A hk hw => (po_some (h.run A hk hw)).imp fun σ H Q ⟨ρ, s, d, s', R, hf, q⟩ => by
  unfold fPart at hf
  cases h1 : f ρ s with
  | none => rw [h1] at hf; cases hf
  | some x =>
    rw [h1, Option.bind_some] at hf
    split at hf
    · rename_i i hi
      cases hf
      exact ⟨ρ, s, x.1, x.2, R, h1, fun v H1 R1 k1 hd => ⟨i, by rw [hi] at hd; cases hd; rfl, q H1 R1 k1⟩⟩
    · cases hf⟩
def fSl (g : D → Option Int → Option Int → Option D) (f : FE) (fl fh : FO) : FE := fun ρ s => (f ρ s).bind fun x => (fl ρ x.2).bind fun y => (fh ρ y.2).bind fun z => (g x.1 y.1 z.1).map (·, z.2)
theorem fSl_some {g : D → Option Int → Option Int → Option D} {f : FE} {fl fh : FO} {ρ : Env} {s s' : Src} {z : D} (h : fSl g f fl fh ρ s = some (z, s')) :
    ∃ d s1 l s2 u, f ρ s = some (d, s1) ∧ fl ρ s1 = some (l, s2) ∧ fh ρ s2 = some (u, s') ∧ g d l u = some z := by
  unfold fSl at h
  cases h1 : f ρ s with
  | none => rw [h1] at h; cases h
  | some x =>
    rw [h1, Option.bind_some] at h
    cases h2 : fl ρ x.2 with
    | none => rw [h2] at h; cases h
    | some y =>
      rw [h2, Option.bind_some] at h
      cases h3 : fh ρ y.2 with
      | none => rw [h3] at h; cases h
      | some w =>
        rw [h3, Option.bind_some] at h
        cases h4 : g x.1 y.1 w.1 with
        | none => rw [h4] at h; cases h
        | some u =>
          rw [h4] at h
          cases h
          exact ⟨x.1, x.2, y.1, y.2, w.1, rfl, h2, h3, h4⟩
def dSlT : D → Option Int → Option Int → Option D
  | .tuple ds, lo, hi => if pl (cutD ds lo hi) = true then none else some (.tuple (cutD ds lo hi))
  | _, _, _ => none
def dSlL : D → Option Int → Option Int → Option D
  | .list ds, lo, hi => some (.list (cutD ds lo hi))
  | _, _, _ => none
variable {ol oh : Option Expr} {gl gh : FO}
theorem cutD_whole {xs : List D} {lo hi : Option Int} (h1 : HT.sIx xs.length 0 lo = 0) (h2 : HT.sIx xs.length xs.length hi = xs.length) : cutD xs lo hi = xs := by
  unfold cutD
  rw [h1, h2, List.drop_zero, Nat.sub_zero, List.take_length]
theorem pd_slT (he : PB X own e f) (hl : POD X own ol gl) (hh : POD X own oh gh) : PD X own (.Subscript e (.Slice ol oh none p2) pos) (fSl dSlT f gl gh) :=
  ⟨fun A hk hw => (pe_slice sl_tupA (he.run A hk hw) (hl.run A hk hw) (hh.run A hk hw)).imp fun σ H Q ⟨ρ, s, z, s', R, hf, q⟩ => by
    obtain ⟨d, s1, l, s2, u, h1, h2, h3, h4⟩ := fSl_some hf
    refine ⟨ρ, s, d, s1, R, h1, fun v H1 R1 k1 t1 => ⟨ρ, s1, l, s2, R1, h2, fun H2 R2 k2 => ⟨ρ, s2, u, s', R2, h3, fun H3 R3 k3 => ?_⟩⟩⟩
    unfold dSlT at h4
    split at h4
    · rename_i ds
      split at h4
      case isTrue => cases h4
      rename_i np
      have np : pl (cutD ds l u) = false := by simpa using np
      cases h4
      have t3 := (t1.keep R1 k2).keep R2 k3
      obtain ⟨a, vs, rfl, ha, da⟩ := t3.tuple
      have kk := (k1.trans k2).trans k3
      refine ⟨a, vs, rfl, hk.1 ▸ seqT_fre ha, fun ⟨w1, w2⟩ => ?_, fun _ p hp => ?_⟩
      · rw [da.length] at w1 w2
        rw [cutD_whole w1 w2] at q
        exact q _ H3 R3 kk t3
      · exact q _ _ (R3.mono (same_upd hp)) (kk.trans (Kp.of (same_upd hp))) (den_tup R3 hp (da.cut l u) np)
    · cases h4⟩
theorem pf_slL (he : PB X own e f) (hl : POD X own ol gl) (hh : POD X own oh gh) : PF X own (.Subscript e (.Slice ol oh none p2) pos) (fSl dSlL f gl gh) :=
  ⟨fun A hk hw => (pe_slice sl_list (he.run A hk hw) (hl.run A hk hw) (hh.run A hk hw)).imp fun σ H Q ⟨ρ, s, z, s', R, hf, q⟩ => by
    obtain ⟨d, s1, l, s2, u, h1, h2, h3, h4⟩ := fSl_some hf
    refine ⟨ρ, s, d, s1, R, h1, fun v H1 R1 k1 t1 => ⟨ρ, s1, l, s2, R1, h2, fun H2 R2 k2 => ⟨ρ, s2, u, s', R2, h3, fun H3 R3 k3 => ?_⟩⟩⟩
    unfold dSlL at h4
    split at h4
    · rename_i ds
      cases h4
      obtain ⟨a, vs, rfl, _, ha, da⟩ := ((t1.keep R1 k2).keep R2 k3).list
      exact ⟨a, vs, rfl, SqL.of ha, fun p hp => q p H3 _ R3 ((k1.trans k2).trans k3) hp ⟨_, rfl, da.cut l u⟩⟩
    · cases h4⟩
end
end DL
/-! Built-in functions on data. -/
namespace DL
open PySem PySem.Spec L2 GX

def fCall (g : List D → Option D) (fa : FA) : FE := fun ρ s => (fa ρ s).bind fun x => (g x.1).map (·, x.2)
theorem fCall_some {g : List D → Option D} {fa : FA} {ρ : Env} {s s' : Src} {z : D} (h : fCall g fa ρ s = some (z, s')) : ∃ ds, fa ρ s = some (ds, s') ∧ g ds = some z := by
  unfold fCall at h
  cases h1 : fa ρ s with
  | none => rw [h1] at h; cases h
  | some x =>
    rw [h1, Option.bind_some] at h
    cases h3 : g x.1 with
    | none => rw [h3] at h; cases h
    | some w =>
      rw [h3] at h
      cases h
      exact ⟨x.1, rfl, h3⟩
def CalR (X : Cx) (r : List V → Hp → VK → Prop) (g : List D → Option D) : Prop := ∀ (A : Act) (ρ : Env) (s : Src) (σ : L2.St) (H : Hp) (vs : List V) (ds : List D) (z : D) (Q : VK), A.At X → Rel A ρ s σ H → TopAll A σ H vs ds → g ds = some z →
  (∀ u H', Same H H' → Den A.K (fre A σ H') u z → Q u H') → r vs H Q
def CalF (X : Cx) (r : List V → Hp → VK → Prop) (g : List D → Option D) : Prop := ∀ (A : Act) (ρ : Env) (s : Src) (σ : L2.St) (H : Hp) (vs : List V) (ds : List D) (z : D) (Q : VK), A.At X → Rel A ρ s σ H → TopAll A σ H vs ds → g ds = some z →
  (∀ p o, H p = none → HasO A.K A.w (fre A σ H) p o z → Q (.ref p) (upd H p o)) → r vs H Q
section
variable {X : Cx} {own : Slots} {x : Str} {p pos : Pos} {e : Expr} {es : List Expr} {fa : FA} {id T : String} {r : List V → Hp → VK → Prop} {g : List D → Option D}
theorem tCB_of {A : Act} (hk : A.At X) (hr : CalR X r g) : ∀ σ H Q, tE A (fCall g fa) σ H Q → tCB r (tAB A fa) σ H Q := fun σ H Q ⟨ρ, s, z, s', R, hf, q⟩ => by
  obtain ⟨ds, h1, h2⟩ := fCall_some hf
  exact ⟨ρ, s, ds, s', R, h1, fun vs H1 R1 k1 t1 => hr A ρ s' σ H1 vs ds z Q hk R1 t1 h2 fun u H' sm hd => q u H' (R1.mono sm) (k1.trans (Kp.of sm)) hd⟩
theorem tCB_ofF {A : Act} (hk : A.At X) (hr : CalF X r g) : ∀ σ H Q, tF A (fCall g fa) σ H Q → tCB r (tAB A fa) σ H Q := fun σ H Q ⟨ρ, s, z, s', R, hf, q⟩ => by
  obtain ⟨ds, h1, h2⟩ := fCall_some hf
  exact ⟨ρ, s, ds, s', R, h1, fun vs H1 R1 k1 t1 => hr A ρ s' σ H1 vs ds z Q hk R1 t1 h2 fun p o hp ho => q p H1 o R1 k1 hp ho⟩
theorem pd_callB (hc : CallR X (.builtin id) r) (hr : CalR X r g) (hm : X.mg x = none) (hv : bootBuiltins x = some (.builtin id)) (ha : PAB X own (e :: es) fa) (hg : Gl X x := by rfl) (hn : x ≠ "__name__" := by decide) (hdb : (x == ("__debug__" : Str)) = false := by decide)
    (he : starEach (e :: es) X.env = (false, eval e X.env) :: starEach es X.env := by rfl) (hpl : (backTo pos (starEach es X.env)).any (·.1) = false := by rfl) : PD X own (.Call (.Name x p) (e :: es) [] pos) (fCall g fa) :=
  ⟨fun A hk hw => (pe_callB hc hg hm hv (ha.run A hk hw) hn hdb he hpl).imp (tCB_of hk hr)⟩
theorem pd_callTy (hc : CallR X (.type T) r) (hr : CalR X r g) (hm : X.mg x = none) (hv : bootBuiltins x = some (.type T)) (ha : PAB X own (e :: es) fa) (hg : Gl X x := by rfl) (hn : x ≠ "__name__" := by decide) (hdb : (x == ("__debug__" : Str)) = false := by decide)
    (he : starEach (e :: es) X.env = (false, eval e X.env) :: starEach es X.env := by rfl) (hpl : (backTo pos (starEach es X.env)).any (·.1) = false := by rfl) : PD X own (.Call (.Name x p) (e :: es) [] pos) (fCall g fa) :=
  ⟨fun A hk hw => (pe_callTy hc hg hm hv (ha.run A hk hw) hn hdb he hpl).imp (tCB_of hk hr)⟩
theorem pf_callB (hc : CallR X (.builtin id) r) (hr : CalF X r g) (hm : X.mg x = none) (hv : bootBuiltins x = some (.builtin id)) (ha : PAB X own (e :: es) fa) (hg : Gl X x := by rfl) (hn : x ≠ "__name__" := by decide) (hdb : (x == ("__debug__" : Str)) = false := by decide)
    (he : starEach (e :: es) X.env = (false, eval e X.env) :: starEach es X.env := by rfl) (hpl : (backTo pos (starEach es X.env)).any (·.1) = false := by rfl) : PF X own (.Call (.Name x p) (e :: es) [] pos) (fCall g fa) :=
  ⟨fun A hk hw => (pe_callB hc hg hm hv (ha.run A hk hw) hn hdb he hpl).imp (tCB_ofF hk hr)⟩
theorem pf_callTy (hc : CallR X (.type T) r) (hr : CalF X r g) (hm : X.mg x = none) (hv : bootBuiltins x = some (.type T)) (ha : PAB X own (e :: es) fa) (hg : Gl X x := by rfl) (hn : x ≠ "__name__" := by decide) (hdb : (x == ("__debug__" : Str)) = false := by decide)
    (he : starEach (e :: es) X.env = (false, eval e X.env) :: starEach es X.env := by rfl) (hpl : (backTo pos (starEach es X.env)).any (·.1) = false := by rfl) : PF X own (.Call (.Name x p) (e :: es) [] pos) (fCall g fa) :=
  ⟨fun A hk hw => (pe_callTy hc hg hm hv (ha.run A hk hw) hn hdb he hpl).imp (tCB_ofF hk hr)⟩
end
section
variable {X : Cx} {A : Act} {σ : L2.St} {H : Hp}
theorem TopAll.one {vs : List V} {d : D} (h : TopAll A σ H vs [d]) : ∃ v, vs = [v] ∧ Top A σ H v d := by
  cases h with
  | cons h1 h2 => cases h2; exact ⟨_, rfl, h1⟩
theorem TopAll.two {vs : List V} {d e : D} (h : TopAll A σ H vs [d, e]) : ∃ v w, vs = [v, w] ∧ Top A σ H v d ∧ Top A σ H w e := by
  cases h with
  | cons h1 h2 =>
    obtain ⟨w, rfl, h3⟩ := h2.one
    exact ⟨_, w, rfl, h1, h3⟩
/-- len -/
def dLen : List D → Option D
  | [.list ds] => some (.int ds.length)
  | [.tuple ds] => some (.int ds.length)
  | [.str x] => if x.length ≤ sizeLine then some (.int x.length) else none
  | [.dict ((.none, .none) :: r)] => some (.int r.length)
  | [.dict kvs] => if kvs.any (fun e => match e.1 with | .none => true | _ => false) = true then none else some (.int kvs.length)
  | _ => none
def rLenX (w : World) (K : PySem.W.Frag) : List V → Hp → VK → Prop := fun xs H Q => ∃ a l, xs = [V.ref a] ∧ IsX w K H a l ∧ Q (.int ((l.length : Nat) : Int)) H
theorem cr_lenX {X : Cx} : CallR X (.builtin "len") (rLenX X.w X.K) := by
  intro pins s σ H xs us Q I r h
  obtain ⟨a, l, rfl, ⟨g1, g2⟩, q⟩ := h
  obtain ⟨u, rfl, rx⟩ := vals1 r
  obtain rfl : u = Value.ref a := rx
  exact x_len I g1 g2 fun t s' I' => ⟨.int ((l.length : Nat) : Int), H, I', ⟨_, rfl⟩, q⟩
def rLenD (w : World) (K : PySem.W.Frag) : List V → Hp → VK → Prop := fun xs H Q => (∃ x n, xs = [x] ∧ LenV K x H n ∧ Q (.int n) H) ∨ (∃ a kvs, xs = [V.ref a] ∧ H a = some (.dK kvs) ∧ Q (.int kvs.length) H) ∨ rLenX w K xs H Q
theorem cr_lenD : CallR X (.builtin "len") (rLenD X.w X.K) := call_len.or (call_lenD.or cr_lenX)
theorem ca_len : CalR X (rLenD X.w X.K) dLen := fun A ρ s σ H vs ds z Q hk R t hz q => by
  unfold dLen at hz
  split at hz
  · rename_i ds
    cases hz
    obtain ⟨v, rfl, t1⟩ := t.one
    obtain ⟨a, ws, rfl, _, h1, h2⟩ := t1.list
    exact .inl ⟨_, ds.length, rfl, .inl ⟨ws, SqL.of h1, h2.length.symm⟩, q _ H (Same.refl H) (.int _)⟩
  · rename_i ds
    cases hz
    obtain ⟨v, rfl, t1⟩ := t.one
    obtain ⟨a, ws, rfl, h1, h2⟩ := t1.tuple
    exact .inl ⟨_, ds.length, rfl, .inr ⟨ws, hk.1 ▸ seqT_fre h1, h2.length.symm⟩, q _ H (Same.refl H) (.int _)⟩
  · split at hz
    · rename_i x hl
      cases hz
      obtain ⟨v, rfl, t1⟩ := t.one
      have e := t1.str
      subst e
      exact .inl ⟨_, x.length, rfl, ⟨hl, rfl⟩, q _ H (Same.refl H) (.int _)⟩
    · cases hz
  · rename_i r
    cases hz
    obtain ⟨v, rfl, t1⟩ := t.one
    obtain ⟨a, o, rfl, _, h1, h2⟩ := (show ∃ a o, v = .ref a ∧ ¬ A.ex a ∧ H a = some o ∧ HasO A.K A.w (fre A σ H) a o (.dict ((.none, .none) :: r)) from t1)
    rcases h2 with ⟨l, r', e0, rfl, e1, e2, _⟩ | ⟨l, rfl, e1, e2, _, e5⟩
    · cases e0
      refine .inr (.inl ⟨a, l, rfl, h1, ?_⟩)
      have := congrArg List.length e1
      rw [List.length_map, List.length_map] at this
      rw [← this]
      exact q _ H (Same.refl H) (.int _)
    · cases l with
      | nil => cases e1
      | cons e l =>
        rw [List.map_cons, List.map_cons] at e1
        injection e1 with e1 _
        cases e1
  · rename_i kvs _
    split at hz
    · cases hz
    rename_i hno
    cases hz
    obtain ⟨v, rfl, t1⟩ := t.one
    obtain ⟨a, o, rfl, _, h1, h2⟩ := (show ∃ a o, v = .ref a ∧ ¬ A.ex a ∧ H a = some o ∧ HasO A.K A.w (fre A σ H) a o (.dict kvs) from t1)
    rcases h2 with ⟨l, r', e0, rfl, e1, e2, _⟩ | ⟨l, rfl, e1, e2, _, e5⟩
    · subst e0
      exact absurd (by simp) hno
    · refine .inr (.inr ⟨a, l, rfl, ⟨.inl (by rw [← hk.2]; exact h1), by rw [← hk.1]; exact KeysIn.mono e5 fre_same⟩, ?_⟩)
      have := congrArg List.length e1
      rw [List.length_map, List.length_map] at this
      rw [← this]
      exact q _ H (Same.refl H) (.int _)
  · cases hz
/-- int, abs, min, max of ints -/
def dInt : List D → Option D
  | [.int i] => some (.int i)
  | [.bool b] => some (.int (if b then 1 else 0))
  | _ => none
theorem ca_int : CalR X (fun xs H Q => (∃ i, xs = [.int i] ∧ Q (.int i) H) ∨ ∃ k, xs = [.bl k] ∧ Q (.int (if k then 1 else 0)) H) dInt := fun A ρ s σ H vs ds z Q hk R t hz q => by
  unfold dInt at hz
  split at hz
  · cases hz
    obtain ⟨v, rfl, t1⟩ := t.one
    have e := t1.int; subst e
    exact .inl ⟨_, rfl, q _ H (Same.refl H) (.int _)⟩
  · cases hz
    obtain ⟨v, rfl, t1⟩ := t.one
    have e := t1.bool; subst e
    exact .inr ⟨_, rfl, q _ H (Same.refl H) (.int _)⟩
  · cases hz
def dAbs : List D → Option D
  | [.int i] => some (.int (if i < 0 then -i else i))
  | _ => none
theorem ca_abs : CalR X (fun xs H Q => ∃ i, xs = [.int i] ∧ Q (.int (if i < 0 then -i else i)) H) dAbs := fun A ρ s σ H vs ds z Q hk R t hz q => by
  unfold dAbs at hz
  split at hz
  · cases hz
    obtain ⟨v, rfl, t1⟩ := t.one
    have e := t1.int; subst e
    exact ⟨_, rfl, q _ H (Same.refl H) (.int _)⟩
  · cases hz
def dMax2 : List D → Option D
  | [.int i, .int j] => some (.int (if j > i then j else i))
  | _ => none
def dMin2 : List D → Option D
  | [.int i, .int j] => some (.int (if j < i then j else i))
  | _ => none
theorem ca_max2 : CalR X (fun xs H Q => ∃ i j, xs = [.int i, .int j] ∧ Q (.int (if j > i then j else i)) H) dMax2 := fun A ρ s σ H vs ds z Q hk R t hz q => by
  unfold dMax2 at hz
  split at hz
  · cases hz
    obtain ⟨v, w, rfl, t1, t2⟩ := t.two
    have e := t1.int; subst e
    have e := t2.int; subst e
    exact ⟨_, _, rfl, q _ H (Same.refl H) (.int _)⟩
  · cases hz
theorem ca_min2 : CalR X (fun xs H Q => ∃ i j, xs = [.int i, .int j] ∧ Q (.int (if j < i then j else i)) H) dMin2 := fun A ρ s σ H vs ds z Q hk R t hz q => by
  unfold dMin2 at hz
  split at hz
  · cases hz
    obtain ⟨v, w, rfl, t1, t2⟩ := t.two
    have e := t1.int; subst e
    have e := t2.int; subst e
    exact ⟨_, _, rfl, q _ H (Same.refl H) (.int _)⟩
  · cases hz
/-- math.gcd -/
def dGcd : List D → Option D
  | [.int i, .int j] => some (.int ((Nat.gcd i.natAbs j.natAbs : Nat) : Int))
  | _ => none
theorem ca_gcd : CalR X rGcd dGcd := fun A ρ s σ H vs ds z Q hk R t hz q => by
  unfold dGcd at hz
  split at hz
  · cases hz
    obtain ⟨v, w, rfl, t1, t2⟩ := t.two
    have e := t1.int; subst e
    have e := t2.int; subst e
    exact ⟨_, _, rfl, q _ H (Same.refl H) (.int _)⟩
  · cases hz
/-- lists of ints, of bools -/
def intsD : List D → Option (List Int)
  | [] => some []
  | .int i :: r => (intsD r).map (i :: ·)
  | _ :: _ => none
theorem ints_of {K : PySem.W.Frag} {F : Hp} : ∀ {ds : List D} {vs : List V} {ns : List Int}, DenAll K F vs ds → intsD ds = some ns → vs = ns.map V.int
  | [], _, _, h, e => by cases h; cases e; rfl
  | d :: ds, _, ns, h, e => by
    cases h with
    | cons h1 h2 =>
      cases d with
      | int i =>
        unfold intsD at e
        cases e1 : intsD ds with
        | none => rw [e1] at e; cases e
        | some ms =>
          rw [e1] at e
          cases e
          cases h1
          rw [ints_of h2 e1]
          rfl
      | _ => cases e
def boolsD : List D → Option (List Bool)
  | [] => some []
  | .bool i :: r => (boolsD r).map (i :: ·)
  | _ :: _ => none
theorem bools_of {K : PySem.W.Frag} {F : Hp} : ∀ {ds : List D} {vs : List V} {ns : List Bool}, DenAll K F vs ds → boolsD ds = some ns → vs = ns.map V.bl
  | [], _, _, h, e => by cases h; cases e; rfl
  | d :: ds, _, ns, h, e => by
    cases h with
    | cons h1 h2 =>
      cases d with
      | bool i =>
        unfold boolsD at e
        cases e1 : boolsD ds with
        | none => rw [e1] at e; cases e
        | some ms =>
          rw [e1] at e
          cases e
          cases h1
          rw [bools_of h2 e1]
          rfl
      | _ => cases e
def dAnyL : List D → Option D
  | [.list ds] => (boolsD ds).map fun bs => .bool (bs.any id)
  | _ => none
def dAllL : List D → Option D
  | [.list ds] => (boolsD ds).map fun bs => .bool (bs.all id)
  | _ => none
theorem ca_anyL : CalR X (rAny X.K) dAnyL := fun A ρ s σ H vs ds z Q hk R t hz q => by
  unfold dAnyL at hz
  split at hz
  · rename_i ds
    cases h1 : boolsD ds with
    | none => rw [h1] at hz; cases hz
    | some bs =>
      rw [h1] at hz
      cases hz
      obtain ⟨v, rfl, t1⟩ := t.one
      obtain ⟨a, ws, rfl, _, h2, h3⟩ := t1.list
      have e := bools_of h3 h1
      subst e
      exact ⟨a, bs, rfl, SqL.of h2, q _ H (Same.refl H) (.bl _)⟩
  · cases hz
theorem ca_allL : CalR X (rAll X.K) dAllL := fun A ρ s σ H vs ds z Q hk R t hz q => by
  unfold dAllL at hz
  split at hz
  · rename_i ds
    cases h1 : boolsD ds with
    | none => rw [h1] at hz; cases hz
    | some bs =>
      rw [h1] at hz
      cases hz
      obtain ⟨v, rfl, t1⟩ := t.one
      obtain ⟨a, ws, rfl, _, h2, h3⟩ := t1.list
      have e := bools_of h3 h1
      subst e
      exact ⟨a, bs, rfl, SqL.of h2, q _ H (Same.refl H) (.bl _)⟩
  · cases hz
def dSumL : List D → Option D
  | [.list ds] => (intsD ds).map fun ns => .int ns.sum
  | _ => none
theorem ca_sumL : CalR X (rSum X.K) dSumL := fun A ρ s σ H vs ds z Q hk R t hz q => by
  unfold dSumL at hz
  split at hz
  · rename_i ds
    cases h1 : intsD ds with
    | none => rw [h1] at hz; cases hz
    | some bs =>
      rw [h1] at hz
      cases hz
      obtain ⟨v, rfl, t1⟩ := t.one
      obtain ⟨a, ws, rfl, _, h2, h3⟩ := t1.list
      have e := ints_of h3 h1
      subst e
      exact ⟨a, bs, rfl, SqL.of h2, q _ H (Same.refl H) (.int _)⟩
  · cases hz
/-- the greatest, the least of a list of ints -/
def maxI : List Int → Option Int
  | [] => none
  | i :: r => some (r.foldl (fun a b => if b > a then b else a) i)
def minI : List Int → Option Int
  | [] => none
  | i :: r => some (r.foldl (fun a b => if b < a then b else a) i)
theorem maxI_mem : ∀ (r : List Int) (i : Int), let m := r.foldl (fun a b => if b > a then b else a) i; (m = i ∨ m ∈ r) ∧ i ≤ m ∧ ∀ y ∈ r, y ≤ m
  | [], i => ⟨.inl rfl, Int.le_refl _, fun y h => by cases h⟩
  | j :: r, i => by
    show let m := r.foldl (fun a b => if b > a then b else a) (if j > i then j else i); (m = i ∨ m ∈ j :: r) ∧ i ≤ m ∧ ∀ y ∈ j :: r, y ≤ m
    have ih := maxI_mem r (if j > i then j else i)
    obtain ⟨h1, h2, h3⟩ := ih
    generalize r.foldl (fun a b => if b > a then b else a) (if j > i then j else i) = m at h1 h2 h3 ⊢
    refine ⟨?_, ?_, fun y hy => ?_⟩
    · rcases h1 with h1 | h1
      · by_cases hj : j > i
        · rw [if_pos hj] at h1; exact .inr (by rw [h1]; exact List.mem_cons_self)
        · rw [if_neg hj] at h1; exact .inl h1
      · exact .inr (List.mem_cons_of_mem _ h1)
    · split at h2 <;> omega
    · rcases List.mem_cons.mp hy with rfl | hy
      · split at h2 <;> omega
      · exact h3 y hy
theorem minI_mem : ∀ (r : List Int) (i : Int), let m := r.foldl (fun a b => if b < a then b else a) i; (m = i ∨ m ∈ r) ∧ m ≤ i ∧ ∀ y ∈ r, m ≤ y
  | [], i => ⟨.inl rfl, Int.le_refl _, fun y h => by cases h⟩
  | j :: r, i => by
    show let m := r.foldl (fun a b => if b < a then b else a) (if j < i then j else i); (m = i ∨ m ∈ j :: r) ∧ m ≤ i ∧ ∀ y ∈ j :: r, m ≤ y
    have ih := minI_mem r (if j < i then j else i)
    obtain ⟨h1, h2, h3⟩ := ih
    generalize r.foldl (fun a b => if b < a then b else a) (if j < i then j else i) = m at h1 h2 h3 ⊢
    refine ⟨?_, ?_, fun y hy => ?_⟩
    · rcases h1 with h1 | h1
      · by_cases hj : j < i
        · rw [if_pos hj] at h1; exact .inr (by rw [h1]; exact List.mem_cons_self)
        · rw [if_neg hj] at h1; exact .inl h1
      · exact .inr (List.mem_cons_of_mem _ h1)
    · split at h2 <;> omega
    · rcases List.mem_cons.mp hy with rfl | hy
      · split at h2 <;> omega
      · exact h3 y hy
def dMaxL : List D → Option D
  | [.list ds] => (intsD ds).bind fun ns => (maxI ns).map .int
  | _ => none
def dMinL : List D → Option D
  | [.list ds] => (intsD ds).bind fun ns => (minI ns).map .int
  | _ => none
theorem ca_maxL : CalR X (rMax X.K) dMaxL := fun A ρ s σ H vs ds z Q hk R t hz q => by
  unfold dMaxL at hz
  split at hz
  · rename_i ds
    cases h1 : intsD ds with
    | none => rw [h1] at hz; cases hz
    | some ns =>
      rw [h1, Option.bind_some] at hz
      cases ns with
      | nil => cases hz
      | cons i r =>
        cases hz
        obtain ⟨v, rfl, t1⟩ := t.one
        obtain ⟨a, ws, rfl, _, h2, h3⟩ := t1.list
        have e := ints_of h3 h1
        subst e
        refine ⟨a, i :: r, rfl, SqL.of h2, by rw [List.length_cons]; omega, fun m hm hle => ?_⟩
        obtain ⟨k1, k2, k3⟩ := maxI_mem r i
        have e : m = r.foldl (fun a b => if b > a then b else a) i := by
          have a1 : m ≤ r.foldl (fun a b => if b > a then b else a) i := by
            rcases List.mem_cons.mp hm with rfl | hm
            · exact k2
            · exact k3 m hm
          have a2 : r.foldl (fun a b => if b > a then b else a) i ≤ m := by
            rcases k1 with k1 | k1
            · rw [k1]; exact hle i List.mem_cons_self
            · exact hle _ (List.mem_cons_of_mem _ k1)
          omega
        rw [e]
        exact q _ H (Same.refl H) (.int _)
  · cases hz
theorem ca_minL : CalR X (rMin X.K) dMinL := fun A ρ s σ H vs ds z Q hk R t hz q => by
  unfold dMinL at hz
  split at hz
  · rename_i ds
    cases h1 : intsD ds with
    | none => rw [h1] at hz; cases hz
    | some ns =>
      rw [h1, Option.bind_some] at hz
      cases ns with
      | nil => cases hz
      | cons i r =>
        cases hz
        obtain ⟨v, rfl, t1⟩ := t.one
        obtain ⟨a, ws, rfl, _, h2, h3⟩ := t1.list
        have e := ints_of h3 h1
        subst e
        refine ⟨a, i :: r, rfl, SqL.of h2, by rw [List.length_cons]; omega, fun m hm hle => ?_⟩
        obtain ⟨k1, k2, k3⟩ := minI_mem r i
        have e : m = r.foldl (fun a b => if b < a then b else a) i := by
          have a1 : r.foldl (fun a b => if b < a then b else a) i ≤ m := by
            rcases List.mem_cons.mp hm with rfl | hm
            · exact k2
            · exact k3 m hm
          have a2 : m ≤ r.foldl (fun a b => if b < a then b else a) i := by
            rcases k1 with k1 | k1
            · rw [k1]; exact hle i List.mem_cons_self
            · exact hle _ (List.mem_cons_of_mem _ k1)
          omega
        rw [e]
        exact q _ H (Same.refl H) (.int _)
  · cases hz
/-- tuple(..), list(..) of a list or a tuple -/
def dTuple : List D → Option D
  | [.list ds] => some (.tuple ds)
  | [.tuple ds] => some (.tuple ds)
  | _ => none
def dList : List D → Option D
  | [.list ds] => some (.list ds)
  | [.tuple ds] => some (.list ds)
  | _ => none
theorem ca_tuple : CalR X (rTupF X.K) dTuple := fun A ρ s σ H vs ds z Q hk R t hz q => by
  unfold dTuple at hz
  split at hz
  · cases hz
    obtain ⟨v, rfl, t1⟩ := t.one
    obtain ⟨a, ws, rfl, _, h1, h2⟩ := t1.list
    exact ⟨a, ws, rfl, .inl ⟨SqL.of h1, fun p us hp => q _ _ (same_upd hp) (den_tupF R hp h2)⟩⟩
  · cases hz
    obtain ⟨v, rfl, t1⟩ := t.one
    obtain ⟨a, ws, rfl, h1, h2⟩ := t1.tuple
    exact ⟨a, ws, rfl, .inr ⟨hk.1 ▸ seqT_fre h1, q _ H (Same.refl H) t1⟩⟩
  · cases hz
theorem cf_list : CalF X (fun xs H Q => ∃ p ys, xs = [.ref p] ∧ (SqL X.K H p ys ∨ SqT X.K H p ys) ∧ ∀ l, H l = none → Q (.ref l) (upd H l (.lst ys))) dList := fun A ρ s σ H vs ds z Q hk R t hz q => by
  unfold dList at hz
  split at hz
  · cases hz
    obtain ⟨v, rfl, t1⟩ := t.one
    obtain ⟨a, ws, rfl, _, h1, h2⟩ := t1.list
    exact ⟨a, ws, rfl, .inl (SqL.of h1), fun p hp => q p _ hp ⟨_, rfl, h2⟩⟩
  · cases hz
    obtain ⟨v, rfl, t1⟩ := t.one
    obtain ⟨a, ws, rfl, h1, h2⟩ := t1.tuple
    exact ⟨a, ws, rfl, .inr (hk.1 ▸ seqT_fre h1), fun p hp => q p _ hp ⟨_, rfl, h2⟩⟩
  · cases hz

/-! ### isinstance -/
def tyD : D → String
  | .none => "NoneType"
  | .bool _ => "bool"
  | .int _ => "int"
  | .str _ => "str"
  | .list _ => "list"
  | .tuple _ => "tuple"
  | .dict _ => "dict"
/-- isinstance(x, T): T int, bool, str, tuple, list -/
def dIsi (T : String) (d : D) : Option D := if isDict d = true then none else (kitB (tyD d) T).map .bool
variable {own : Slots} {p p2 pos : Pos} {e : Expr} {f : FE}
theorem isi_run {pins : List (Addr × Obj)} {s : Shared} {ρ : Env} {sr : Src} {v : V} {u : Value} {d : D} {T : String} {b : Bool} {Q : Value → Shared → Prop} {E : Value → Shared → Prop} {A1 : Around} (hk : A.At X) (I : Inv X pins σ H s) (ru : RelV v u) (t : Top A σ H v d) (nd : isDict d = false) (hb : kitB (tyD d) T = some b)
    (q : ∀ tk, Q (.bool b) { s with toks := tk }) : wpAny (model X.prog X.w) A1 (call (.builtin "isinstance") [u, .type T]) Q E s := by
  cases d with
  | none =>
    have e := t.non; subst e
    cases (show u = Value.none from ru); exact PySem.W.kia_one PySem.W.kitx_none I.kIn True.intro (kit_ty hb) (fun z => nomatch z) q
  | bool y =>
    have e := t.bool; subst e
    cases (show u = Value.bool y from ru); exact PySem.W.kia_one PySem.W.kitx_bool I.kIn True.intro (kit_ty hb) (fun z => nomatch z) q
  | int i =>
    have e := t.int; subst e
    obtain ⟨t, z⟩ := (show ∃ t, u = Value.int i t from ru); cases z; exact PySem.W.kia_one PySem.W.kitx_int I.kIn True.intro (kit_ty hb) (fun z => nomatch z) q
  | str y =>
    have e := t.str; subst e
    obtain ⟨t, z⟩ := (show ∃ t, u = Value.str y t from ru); cases z; exact PySem.W.kia_one PySem.W.kitx_str I.kIn True.intro (kit_ty hb) (fun z => nomatch z) q
  | list ds =>
    obtain ⟨a, xs, rfl, _, ea, _⟩ := t.list
    cases (show u = Value.ref a from ru)
    obtain ⟨_, _, n, _, h1⟩ := (show ObjOk X.prog X.w H s.heap a (.lst xs) from I.hok a _ ea)
    exact PySem.W.kia_one PySem.W.kitx_list I.kIn ⟨_, h1, rfl⟩ (kit_ty hb) (fun z => nomatch z) q
  | tuple ds =>
    obtain ⟨a, xs, rfl, ea, _⟩ := t.tuple
    cases (show u = Value.ref a from ru)
    obtain ⟨its, r, ⟨o, h1, h2, _⟩, _⟩ := I.tuple (hk.1 ▸ seqT_fre ea)
    exact PySem.W.kia_one PySem.W.kitx_tuple I.kIn ⟨o, h1, h2⟩ (kit_ty hb) (fun z => nomatch z) q
  | dict kvs => cases nd
/-- what isinstance asks by values: the class a built-in type -/
def rIsiD (X : Cx) (T : String) : List V → Hp → VK → Prop := fun xs H Q => ∃ (A : Act) (ρ : Env) (sr : Src) (σ : L2.St) (v : V) (d : D) (b : Bool), A.At X ∧ xs = [v, .ty T] ∧ Top A σ H v d ∧ isDict d = false ∧ kitB (tyD d) T = some b ∧ Q (.bl b) H
theorem cr_isiD {T : String} : CallR X (.builtin "isinstance") (rIsiD X T) := by
  intro pins s σ H xs us Q I r h
  obtain ⟨A, ρ, sr, σ2, v, d, b, hk, rfl, t, nd, hb, q⟩ := h
  obtain ⟨u1, u2, rfl, r1, r2⟩ := vals2 r
  cases (show u2 = Value.type T from r2)
  cases d with
  | none =>
    have e := t.non; subst e
    cases (show u1 = Value.none from r1); exact PySem.W.kia_one PySem.W.kitx_none I.kIn True.intro (kit_ty hb) (fun z => nomatch z) fun tk => ⟨.bl b, H, I.tok tk, rfl, q⟩
  | bool y =>
    have e := t.bool; subst e
    cases (show u1 = Value.bool y from r1); exact PySem.W.kia_one PySem.W.kitx_bool I.kIn True.intro (kit_ty hb) (fun z => nomatch z) fun tk => ⟨.bl b, H, I.tok tk, rfl, q⟩
  | int i =>
    have e := t.int; subst e
    obtain ⟨t, z⟩ := (show ∃ t, u1 = Value.int i t from r1); cases z; exact PySem.W.kia_one PySem.W.kitx_int I.kIn True.intro (kit_ty hb) (fun z => nomatch z) fun tk => ⟨.bl b, H, I.tok tk, rfl, q⟩
  | str y =>
    have e := t.str; subst e
    obtain ⟨t, z⟩ := (show ∃ t, u1 = Value.str y t from r1); cases z; exact PySem.W.kia_one PySem.W.kitx_str I.kIn True.intro (kit_ty hb) (fun z => nomatch z) fun tk => ⟨.bl b, H, I.tok tk, rfl, q⟩
  | list ds =>
    obtain ⟨a, xs, rfl, _, ea, _⟩ := t.list
    cases (show u1 = Value.ref a from r1)
    obtain ⟨_, _, n, _, h1⟩ := (show ObjOk X.prog X.w H s.heap a (.lst xs) from I.hok a _ ea)
    exact PySem.W.kia_one PySem.W.kitx_list I.kIn ⟨_, h1, rfl⟩ (kit_ty hb) (fun z => nomatch z) fun tk => ⟨.bl b, H, I.tok tk, rfl, q⟩
  | tuple ds =>
    obtain ⟨a, xs, rfl, ea, _⟩ := t.tuple
    cases (show u1 = Value.ref a from r1)
    obtain ⟨its, rr, ⟨o, h1, h2, _⟩, _⟩ := I.tuple (hk.1 ▸ seqT_fre ea)
    exact PySem.W.kia_one PySem.W.kitx_tuple I.kIn ⟨o, h1, h2⟩ (kit_ty hb) (fun z => nomatch z) fun tk => ⟨.bl b, H, I.tok tk, rfl, q⟩
  | dict kvs => cases nd
theorem pd_isi {T : String} {x : Str} (hT : X.mg x = none) (hvT : bootBuiltins x = some (.type T)) (hm : X.mg "isinstance" = none) (he : PB X own e f) (hg : Gl X "isinstance" := by rfl) (hgT : Gl X x := by rfl) (hn : x ≠ "__name__" := by decide) (hdb : (x == ("__debug__" : Str)) = false := by decide)
    (hs1 : starEach [e, .Name x p2] X.env = (false, eval e X.env) :: starEach [.Name x p2] X.env := by rfl) (hs2 : starEach [.Name x p2] X.env = (false, eval (.Name x p2) X.env) :: starEach [] X.env := by rfl)
    (hpl : (backTo pos (starEach [.Name x p2] X.env)).any (·.1) = false := by rfl) : PD X own (.Call (.Name "isinstance" p) [e, .Name x p2] [] pos) (fU1 (dIsi T) f) :=
  ⟨fun A hk hw => (pe_callB cr_isiD hg hm rfl (pa_cons (he.run A hk hw) (pa_cons (pe_bltn (v := .ty T) hgT hT hvT rfl hn hdb) pa_nil hs2) hs1) (by decide) (by decide) hs1 hpl).imp fun σ H Q ⟨ρ, s, z, s', R, hf, q⟩ => by
    obtain ⟨d, h1, h2⟩ := fU1_some hf
    unfold dIsi at h2
    split at h2
    · cases h2
    · rename_i nd
      cases hb : kitB (tyD d) T with
      | none => rw [hb] at h2; cases h2
      | some b =>
        rw [hb] at h2
        cases h2
        exact ⟨ρ, s, d, s', R, h1, fun v H1 R1 k1 t1 => ⟨A, ρ, s', σ, v, d, b, hk, rfl, t1, by simpa using nd, hb, q _ H1 R1 k1 (.bl b)⟩⟩⟩
end
end DL
/-! Statements on data. -/
namespace DL
open PySem PySem.Spec L2 GX

/-- all but one's own roots and the source stands; no root is an old object that was none -/
def Fr (A : Act) (σ : L2.St) (H : Hp) (σ' : L2.St) (H' : Hp) : Prop := ∀ a o, H a = some o → ¬ IsRoot A σ a → ¬ A.mv a → H' a = some o ∧ ¬ IsRoot A σ' a
theorem Fr.refl (A : Act) (σ : L2.St) (H : Hp) : Fr A σ H σ H := fun _ _ h n _ => ⟨h, n⟩
theorem Fr.trans {A : Act} {σ σ1 σ2 : L2.St} {H H1 H2 : Hp} (a : Fr A σ H σ1 H1) (b : Fr A σ1 H1 σ2 H2) : Fr A σ H σ2 H2 := fun c o h n z =>
  let ⟨h1, n1⟩ := a c o h n z
  b c o h1 n1 z
theorem Kp.fr {A : Act} {σ : L2.St} {H H' : Hp} (k : Kp A H H') : Fr A σ H σ H' := fun a o h n z => ⟨k a o h z, n⟩

/-- what a statement does next -/
inductive Fl where
  | nx | rt (d : D) | bk | ct
abbrev FS := Env → Src → Option (Fl × Env × Src)
open Classical in
noncomputable def bar (A : Act) (H : Hp) : Hp := fun a => if A.ex a then none else H a
theorem bar_of {A : Act} {H : Hp} {a : Addr} {o : HO} (h : H a = some o) (n : ¬ A.ex a) : bar A H a = some o := by
  unfold bar
  rw [if_neg n]
  exact h
theorem fre_bar {A : Act} {σ : L2.St} {H : Hp} : Same (fre A σ H) (bar A H) := fun a o h => bar_of (fre_same a o h) (fre_no h).2
/-- a value as it is handed back -/
theorem Top.bar {A : Act} {σ : L2.St} {H : Hp} {v : V} : ∀ {d : D}, isDict d = false → Top A σ H v d → Den A.K (bar A H) v d
  | .list ds, _, ⟨a, vs, e, n, h, q⟩ => by
    subst e
    exact .lst (bar_of h n) (q.mono fre_bar)
  | .dict kvs, n, _ => by cases n
  | .none, _, h => Den.mono fre_bar h
  | .bool _, _, h => Den.mono fre_bar h
  | .int _, _, h => Den.mono fre_bar h
  | .str _, _, h => Den.mono fre_bar h
  | .tuple _, _, h => Den.mono fre_bar h

def tS (A : Act) (f : FS) : TS := fun E σ H => ∃ ρ s fl ρ' s', Rel A ρ s σ H ∧ f ρ s = some (fl, ρ', s') ∧
  match fl with
  | .nx => ∀ σ' H', Rel A ρ' s' σ' H' → Fr A σ H σ' H' → E.nx σ' H'
  | .bk => ∀ σ' H', Rel A ρ' s' σ' H' → Fr A σ H σ' H' → E.bk σ' H'
  | .ct => ∀ σ' H', Rel A ρ' s' σ' H' → Fr A σ H σ' H' → E.ct σ' H'
  | .rt d => ∀ v σ' H', Rel A ρ' s' σ' H' → Fr A σ H σ' H' → Den A.K (bar A H') v d → E.rt v H'
structure SD (X : Cx) (own : Slots) (st : Stmt) (f : FS) : Prop where
  run : ∀ A : Act, A.At X → A.Of own → PS X st (tS A f)
structure SDs (X : Cx) (own : Slots) (st : List Stmt) (f : FS) : Prop where
  run : ∀ A : Act, A.At X → A.Of own → PSs X st (tS A f)

section
variable {A : Act} {ρ : Env} {s : Src} {σ : L2.St} {H : Hp} {v : V} {d : D} {i : Nat} {W : Slots}
theorem root_set (hi : i ∉ A.own) (x : Option V) (a : Addr) : IsRoot A (σ.set i x) a ↔ IsRoot A σ a := by
  constructor
  · rintro ⟨j, h1, h2⟩
    refine ⟨j, h1, ?_⟩
    rw [List.getElem?_set_ne (fun e => hi (by rw [e]; exact h1))] at h2
    exact h2
  · rintro ⟨j, h1, h2⟩
    refine ⟨j, h1, ?_⟩
    rw [List.getElem?_set_ne (fun e => hi (by rw [e]; exact h1))]
    exact h2
theorem fre_set (hi : i ∉ A.own) (x : Option V) : fre A (σ.set i x) H = fre A σ H := by
  funext a
  unfold fre
  by_cases h : IsRoot A σ a ∨ A.ex a
  · rw [if_pos h, if_pos (h.elim (fun z => .inl ((root_set hi x a).mpr z)) .inr)]
  · rw [if_neg h, if_neg (fun z => h (z.elim (fun z => .inl ((root_set hi x a).mp z)) .inr))]
/-- a plain slot is stored, or forgotten -/
theorem Rel.set (R : Rel A ρ s σ H) (hi : i ∉ A.own) (hf : i ∉ A.fix.map (·.1)) {x : Option V} {y : Option D} (hd : ∀ d, y = some d → ∃ v, x = some v ∧ Den A.K (fre A σ H) v d) : Rel A (ρ.set i y) s (σ.set i x) H where
  len := by rw [List.length_set, List.length_set]; exact R.len
  nl := by rw [List.length_set]; exact R.nl
  keep := R.keep
  src := R.src
  exin := R.exin
  fix := fun p hp => by
    have ne : i ≠ p.1 := fun e => hf (by rw [e]; exact List.mem_map.mpr ⟨p, hp, rfl⟩)
    rw [List.getElem?_set_ne ne, List.getElem?_set_ne ne]
    exact R.fix p hp
  val := fun j d h n => by
    rw [fre_set hi]
    by_cases e : i = j
    · subst e
      by_cases hl : i < ρ.length
      · rw [List.getElem?_set_self hl] at h
        obtain ⟨v, h1, h2⟩ := hd d (Option.some.inj h)
        refine ⟨v, ?_, h2⟩
        rw [List.getElem?_set_self (by rw [← R.len]; exact hl), h1]
      · rw [List.getElem?_eq_none (by rw [List.length_set]; omega)] at h
        cases h
    · rw [List.getElem?_set_ne e] at h ⊢
      exact R.val j d h n
  ownv := fun j d h n => by
    have e : i ≠ j := fun e => hi (by rw [e]; exact n)
    rw [List.getElem?_set_ne e] at h
    obtain ⟨p, o, h1, h2, h3⟩ := R.ownv j d h n
    refine ⟨p, o, ?_, h2, ?_⟩
    · rw [List.getElem?_set_ne e]; exact h1
    · rw [fre_set hi]; exact h3
  root := fun j p n h => by
    have e : i ≠ j := fun e => hi (by rw [e]; exact n)
    rw [List.getElem?_set_ne e] at h
    exact R.root j p n h
  inj := fun j k p n m h q => by
    have e : i ≠ j := fun e => hi (by rw [e]; exact n)
    have e' : i ≠ k := fun e => hi (by rw [e]; exact m)
    rw [List.getElem?_set_ne e] at h
    rw [List.getElem?_set_ne e'] at q
    exact R.inj j k p n m h q
  tabs := R.tabs
theorem Fr.set (hi : i ∉ A.own) (x : Option V) : Fr A σ H (σ.set i x) H := fun a o h n z => ⟨h, fun q => n ((root_set hi x a).mp q)⟩
/-- a slot of one's own takes a new object -/
theorem Rel.setOwn (R : Rel A ρ s σ H) (hi : i ∈ A.own) {p : Addr} {o : HO} (hp : H p = none) (ho : HasO A.K A.w (fre A σ H) p o d) (hl : i < ρ.length) :
    Rel A (ρ.set i (some d)) s (σ.set i (some (.ref p))) (upd H p o) ∧ Fr A σ H (σ.set i (some (.ref p))) (upd H p o) := by
  obtain ⟨n1, n2, n3⟩ := R.new hp
  have hls : i < σ.length := by rw [← R.len]; exact hl
  have nr : ∀ a ob, H a = some ob → ¬ IsRoot A σ a → ¬ IsRoot A (σ.set i (some (.ref p))) a := fun a ob ha n ⟨j, h1, h2⟩ => by
    by_cases e : i = j
    · subst e
      rw [List.getElem?_set_self hls] at h2
      injection h2 with h2; injection h2 with h2; injection h2 with h2
      rw [← h2, hp] at ha; cases ha
    · rw [List.getElem?_set_ne e] at h2
      exact n ⟨j, h1, h2⟩
  have sm : Same (fre A σ H) (fre A (σ.set i (some (.ref p))) (upd H p o)) := fun a ob h => by
    obtain ⟨m1, m2⟩ := fre_no h
    have ha := fre_same a ob h
    exact fre_of (same_upd hp a ob ha) (nr a ob ha m1) m2
  refine ⟨⟨?_, by rw [List.length_set]; exact R.nl, fun a ob h n => same_upd hp _ _ (R.keep a ob h n), fun q h => ?_, fun a h => ?_, fun q hq => ?_, fun j e h n => ?_, fun j e h n => ?_, fun j q n h => ?_, fun j k q n m h1 h2 => ?_, fun q h => let ⟨t, u⟩ := R.tabs q h; ⟨t.keep fun o e => same_upd hp _ _ e, u⟩⟩, fun a ob ha n z => ⟨same_upd hp _ _ ha, nr a ob ha n⟩⟩
  · rw [List.length_set, List.length_set]; exact R.len
  · obtain ⟨a1, a2, a3⟩ := R.src q h
    exact ⟨same_upd hp _ _ a1, a2, a3⟩
  · obtain ⟨ob, q⟩ := R.exin a h
    exact ⟨ob, same_upd hp _ _ q⟩
  · obtain ⟨f1, f2, f3⟩ := R.fix q hq
    have ne : i ≠ q.1 := fun e => f2 (by rw [← e]; exact hi)
    rw [List.getElem?_set_ne ne, List.getElem?_set_ne ne]
    exact ⟨f1, f2, f3⟩
  · have ne : i ≠ j := fun q => n (by rw [← q]; exact hi)
    rw [List.getElem?_set_ne ne] at h ⊢
    obtain ⟨v, h1, h2⟩ := R.val j e h n
    exact ⟨v, h1, h2.mono sm⟩
  · by_cases ne : i = j
    · subst ne
      rw [List.getElem?_set_self hl] at h
      injection h with h; injection h with h; subst h
      exact ⟨p, o, List.getElem?_set_self hls, upd_same, ho.mono sm⟩
    · rw [List.getElem?_set_ne ne] at h ⊢
      obtain ⟨q, ob, h1, h2, h3⟩ := R.ownv j e h n
      exact ⟨q, ob, h1, same_upd hp _ _ h2, h3.mono sm⟩
  · by_cases ne : i = j
    · subst ne
      rw [List.getElem?_set_self hls] at h
      injection h with h; injection h with h; injection h with h; subst h
      exact ⟨n3, n2, o, upd_same⟩
    · rw [List.getElem?_set_ne ne] at h
      obtain ⟨a1, a2, ob, a3⟩ := R.root j q n h
      exact ⟨a1, a2, ob, same_upd hp _ _ a3⟩
  · have old : ∀ j q, i ≠ j → j ∈ A.own → (σ.set i (some (.ref p)))[j]? = some (some (.ref q)) → q ≠ p := fun j q ne n h e => by
      rw [List.getElem?_set_ne ne] at h
      obtain ⟨_, _, ob, a3⟩ := R.root j q n h
      rw [e, hp] at a3; cases a3
    by_cases e1 : i = j
    · by_cases e2 : i = k
      · rw [← e1, ← e2]
      · subst e1
        have := old k q e2 m h2
        rw [List.getElem?_set_self hls] at h1
        injection h1 with h1; injection h1 with h1; injection h1 with h1
        exact absurd h1.symm this
    · by_cases e2 : i = k
      · subst e2
        have := old j q e1 n h1
        rw [List.getElem?_set_self hls] at h2
        injection h2 with h2; injection h2 with h2; injection h2 with h2
        exact absurd h2.symm this
      · rw [List.getElem?_set_ne e1] at h1
        rw [List.getElem?_set_ne e2] at h2
        exact R.inj j k q n m h1 h2
/-- an object of one's own is changed -/
theorem Rel.change (R : Rel A ρ s σ H) (hi : i ∈ A.own) {p : Addr} {o : HO} (hs : σ[i]? = some (some (.ref p))) (ho : HasO A.K A.w (fre A σ H) p o d) :
    Rel A (ρ.set i (some d)) s σ (upd H p o) ∧ Fr A σ H σ (upd H p o) := by
  obtain ⟨n1, n2, ob0, n3⟩ := R.root i p hi hs
  have hls : i < σ.length := (List.getElem?_eq_some_iff.mp hs).1
  have hl : i < ρ.length := by rw [R.len]; exact hls
  have ir : IsRoot A σ p := ⟨i, hi, hs⟩
  have sm : Same (fre A σ H) (fre A σ (upd H p o)) := fun a ob h => by
    obtain ⟨m1, m2⟩ := fre_no h
    have ne : a ≠ p := fun e => m1 (by rw [e]; exact ir)
    exact fre_of (by rw [upd_ne ne]; exact fre_same a ob h) m1 m2
  refine ⟨⟨?_, by rw [List.length_set]; exact R.nl, fun a ob h n => ?_, fun q h => ?_, fun a h => ?_, fun q hq => ?_, fun j e h n => ?_, fun j e h n => ?_, fun j q n h => ?_, R.inj, fun q h => let ⟨t, u⟩ := R.tabs q h; ⟨t.keep fun o e => by rw [upd_ne (fun z => n2 (by rw [← z]; exact u.2))]; exact e, u⟩⟩, fun a ob ha n z => ?_⟩
  · rw [List.length_set]; exact R.len
  · have ne : a ≠ p := fun e => by rw [e, n1] at h; cases h
    rw [upd_ne ne]; exact R.keep a ob h n
  · obtain ⟨a1, a2, a3⟩ := R.src q h
    have ne : q ≠ p := fun e => n2 (by rw [← e]; exact a3)
    rw [upd_ne ne]; exact ⟨a1, a2, a3⟩
  · obtain ⟨o1, q⟩ := R.exin a h
    have ne : a ≠ p := fun e => n2 (by rw [← e]; exact h)
    exact ⟨o1, by rw [upd_ne ne]; exact q⟩
  · obtain ⟨f1, f2, f3⟩ := R.fix q hq
    have ne : i ≠ q.1 := fun e => f2 (by rw [← e]; exact hi)
    rw [List.getElem?_set_ne ne]
    exact ⟨f1, f2, f3⟩
  · have ne : i ≠ j := fun q => n (by rw [← q]; exact hi)
    rw [List.getElem?_set_ne ne] at h
    obtain ⟨v, h1, h2⟩ := R.val j e h n
    exact ⟨v, h1, h2.mono sm⟩
  · by_cases ne : i = j
    · subst ne
      rw [List.getElem?_set_self hl] at h
      injection h with h; injection h with h; subst h
      exact ⟨p, o, hs, upd_same, ho.mono sm⟩
    · rw [List.getElem?_set_ne ne] at h
      obtain ⟨q, ob, h1, h2, h3⟩ := R.ownv j e h n
      have nq : q ≠ p := fun e => ne (R.inj i j p hi n hs (by rw [← e]; exact h1))
      exact ⟨q, ob, h1, by rw [upd_ne nq]; exact h2, h3.mono sm⟩
  · obtain ⟨a1, a2, ob, a3⟩ := R.root j q n h
    refine ⟨a1, a2, ?_⟩
    by_cases e : q = p
    · exact ⟨o, by rw [e, upd_same]⟩
    · exact ⟨ob, by rw [upd_ne e]; exact a3⟩
  · have ne : a ≠ p := fun e => n (by rw [e]; exact ir)
    exact ⟨by rw [upd_ne ne]; exact ha, n⟩
end

section
variable {X : Cx} {own : Slots} {e : Expr} {f : FE} {st : Stmt} {rest : List Stmt} {g h : FS} {pos : Pos}
/-! ### blocks -/
def fNx : FS := fun ρ s => some (.nx, ρ, s)
def fSeq (g h : FS) : FS := fun ρ s => (g ρ s).bind fun x => match x.1 with
  | .nx => h x.2.1 x.2.2
  | _ => some x
theorem sds_nil : SDs X own [] fNx := ⟨fun A hk hw => pss_nil.imp fun E σ H ⟨ρ, s, fl, ρ', s', R, hf, q⟩ => by cases hf; exact q σ H R (Fr.refl _ _ _)⟩
theorem sds_one (h1 : SD X own st g) : SDs X own [st] g := ⟨fun A hk hw => pss_one (h1.run A hk hw)⟩
theorem sds_cons (h1 : SD X own st g) (h2 : SDs X own rest h) : SDs X own (st :: rest) (fSeq g h) :=
  ⟨fun A hk hw => (pss_cons (h1.run A hk hw) (h2.run A hk hw)).imp fun E σ H ⟨ρ, s, fl, ρ', s', R, hf, q⟩ => by
    unfold fSeq at hf
    cases h0 : g ρ s with
    | none => rw [h0] at hf; cases hf
    | some x =>
      obtain ⟨fl1, ρ1, s1⟩ := x
      rw [h0, Option.bind_some] at hf
      refine ⟨ρ, s, fl1, ρ1, s1, R, h0, ?_⟩
      cases fl1 with
      | nx =>
        intro σ1 H1 R1 F1
        refine ⟨ρ1, s1, fl, ρ', s', R1, hf, ?_⟩
        cases fl with
        | nx => exact fun σ2 H2 R2 F2 => q σ2 H2 R2 (F1.trans F2)
        | bk => exact fun σ2 H2 R2 F2 => q σ2 H2 R2 (F1.trans F2)
        | ct => exact fun σ2 H2 R2 F2 => q σ2 H2 R2 (F1.trans F2)
        | rt d => exact fun v σ2 H2 R2 F2 => q v σ2 H2 R2 (F1.trans F2)
      | bk => cases hf; exact q
      | ct => cases hf; exact q
      | rt d => cases hf; exact q⟩
theorem sd_pass : SD X own (.Pass pos) fNx := ⟨fun A hk hw => ps_pass.imp fun E σ H ⟨ρ, s, fl, ρ', s', R, hf, q⟩ => by cases hf; exact q σ H R (Fr.refl _ _ _)⟩
def fBk : FS := fun ρ s => some (.bk, ρ, s)
def fCt : FS := fun ρ s => some (.ct, ρ, s)
theorem sd_break : SD X own (.Break pos) fBk := ⟨fun A hk hw => ps_break.imp fun E σ H ⟨ρ, s, fl, ρ', s', R, hf, q⟩ => by cases hf; exact q σ H R (Fr.refl _ _ _)⟩
theorem sd_continue : SD X own (.Continue pos) fCt := ⟨fun A hk hw => ps_continue.imp fun E σ H ⟨ρ, s, fl, ρ', s', R, hf, q⟩ => by cases hf; exact q σ H R (Fr.refl _ _ _)⟩
/-- code that is never come to -/
def fNever : FS := fun _ _ => none
theorem sd_never : SD X own st fNever := ⟨fun A hk hw => ps_never.imp fun E σ H ⟨ρ, s, fl, ρ', s', R, hf, q⟩ => by cases hf⟩
theorem sds_never : SDs X own rest fNever := ⟨fun A hk hw => pss_never.imp fun E σ H ⟨ρ, s, fl, ρ', s', R, hf, q⟩ => by cases hf⟩
/-- an expression whose value is dropped -/
def fDrop (f : FE) : FS := fun ρ s => (f ρ s).map fun x => (.nx, ρ, x.2)
theorem sd_expr (he : PB X own e f) (hs : swapsWith e none pos.line X.env = pure false := by rfl) : SD X own (.Expr e pos) (fDrop f) :=
  ⟨fun A hk hw => (ps_expr (he.run A hk hw) hs).imp fun E σ H ⟨ρ, s, fl, ρ', s', R, hf, q⟩ => by
    unfold fDrop at hf
    cases h0 : f ρ s with
    | none => rw [h0] at hf; cases hf
    | some x =>
      rw [h0] at hf
      cases hf
      exact ⟨ρ, s, x.1, x.2, R, h0, fun v H1 R1 k1 _ => q σ H1 R1 k1.fr⟩⟩
/-- return e -/
def fRet (f : FE) : FS := fun ρ s => (f ρ s).bind fun x => if isDict x.1 = true then none else some (.rt x.1, ρ, x.2)
theorem sd_ret (he : PB X own e f) : SD X own (.Return (some e) pos) (fRet f) :=
  ⟨fun A hk hw => (ps_ret (he.run A hk hw)).imp fun E σ H ⟨ρ, s, fl, ρ', s', R, hf, q⟩ => by
    unfold fRet at hf
    cases h0 : f ρ s with
    | none => rw [h0] at hf; cases hf
    | some x =>
      rw [h0, Option.bind_some] at hf
      split at hf
      · cases hf
      · rename_i nd
        cases hf
        exact ⟨ρ, s, x.1, x.2, R, h0, fun v H1 R1 k1 t1 => q v σ H1 R1 k1.fr (t1.bar (by simpa using nd))⟩⟩
def fRetN : FS := fun ρ s => some (.rt .none, ρ, s)
theorem sd_retN : SD X own (.Return none pos) fRetN := ⟨fun A hk hw => ps_retN.imp fun E σ H ⟨ρ, s, fl, ρ', s', R, hf, q⟩ => by cases hf; exact q .non σ H R (Fr.refl _ _ _) .non⟩
def fIfS (t : FT) (g h : FS) : FS := fun ρ s => (t ρ s).bind fun x => if x.1 = true then g ρ x.2 else h ρ x.2
theorem sd_if {c : Expr} {a b : List Stmt} {t : FT} (hc : PTD X own c t) (ha : SDs X own a g) (hb : SDs X own b h) : SD X own (.If c a b pos) (fIfS t g h) :=
  ⟨fun A hk hw => (ps_if (hc.run A hk hw) (ha.run A hk hw) (hb.run A hk hw)).imp fun E σ H ⟨ρ, s, fl, ρ', s', R, hf, q⟩ => by
    unfold fIfS at hf
    cases h0 : t ρ s with
    | none => rw [h0] at hf; cases hf
    | some x =>
      obtain ⟨c, s1⟩ := x
      rw [h0, Option.bind_some] at hf
      refine ⟨ρ, s, c, s1, R, h0, fun H1 R1 k1 => ?_⟩
      cases c with
      | true =>
        rw [if_pos rfl] at hf ⊢
        refine ⟨ρ, s1, fl, ρ', s', R1, hf, ?_⟩
        cases fl with
        | nx => exact fun σ2 H2 R2 F2 => q σ2 H2 R2 (k1.fr.trans F2)
        | bk => exact fun σ2 H2 R2 F2 => q σ2 H2 R2 (k1.fr.trans F2)
        | ct => exact fun σ2 H2 R2 F2 => q σ2 H2 R2 (k1.fr.trans F2)
        | rt d => exact fun v σ2 H2 R2 F2 => q v σ2 H2 R2 (k1.fr.trans F2)
      | false =>
        rw [if_neg Bool.false_ne_true] at hf ⊢
        refine ⟨ρ, s1, fl, ρ', s', R1, hf, ?_⟩
        cases fl with
        | nx => exact fun σ2 H2 R2 F2 => q σ2 H2 R2 (k1.fr.trans F2)
        | bk => exact fun σ2 H2 R2 F2 => q σ2 H2 R2 (k1.fr.trans F2)
        | ct => exact fun σ2 H2 R2 F2 => q σ2 H2 R2 (k1.fr.trans F2)
        | rt d => exact fun v σ2 H2 R2 F2 => q v σ2 H2 R2 (k1.fr.trans F2)⟩

/-! ### stores -/
variable {x : Str} {i : Nat} {pos' : Pos}
theorem Act.Of.nown {A : Act} {W : Slots} (h : A.Of W) {i : Nat} (hi : W.own.contains i = false) : i ∉ A.own := by rw [h.own]; simpa using hi
theorem Act.Of.isown {A : Act} {W : Slots} (h : A.Of W) {i : Nat} (hi : W.own.contains i = true) : i ∈ A.own := by rw [h.own]; simpa using hi
theorem Act.Of.nfix {A : Act} {W : Slots} (h : A.Of W) {i : Nat} (hi : W.fx.contains i = false) : i ∉ A.fix.map (·.1) := by rw [h.fx]; simpa using hi
def fSet (i : Nat) (f : FE) : FS := fun ρ s => (f ρ s).map fun x => (.nx, ρ.set i (some x.1), x.2)
theorem sd_set (i : Nat) (he : PD X own e f) (hw1 : own.own.contains i = false := by rfl) (hw2 : own.fx.contains i = false := by rfl) (hN : X.N.Nodup := by assumption) (hi : X.N[i]? = some x := by rfl) (hx : Loc X.env.scope x := by first | exact Or.inl rfl | exact Or.inr rfl)
    (hs : swapsWith e (some (.Name x pos')) pos.line X.env = pure false := by rfl) (hf : X.fn x = true ∨ X.env.scope.names.lookup x = some .local := by first | exact .inl rfl | exact .inr rfl) :
    SD X own (.Assign [.Name x pos'] e pos) (fSet i f) :=
  ⟨fun A hk hw => (ps_set hN hi hx (he.run A hk hw) hs hf).imp fun E σ H ⟨ρ, s, fl, ρ', s', R, hf, q⟩ => by
    unfold fSet at hf
    cases h0 : f ρ s with
    | none => rw [h0] at hf; cases hf
    | some y =>
      rw [h0] at hf
      cases hf
      refine ⟨ρ, s, y.1, y.2, R, h0, fun v H1 R1 k1 d1 => ?_⟩
      exact q _ H1 (R1.set (hw.nown hw1) (hw.nfix hw2) fun d e => by cases e; exact ⟨v, rfl, d1⟩) (k1.fr.trans (Fr.set (hw.nown hw1) _))⟩
/-- a comprehension stored on one line -/
theorem sd_setOwn (i : Nat) (he : PF X own e f) (hw1 : own.own.contains i = true := by rfl) (hN : X.N.Nodup := by assumption) (hi : X.N[i]? = some x := by rfl) (hx : Loc X.env.scope x := by first | exact Or.inl rfl | exact Or.inr rfl)
    (hs : swapsWith e (some (.Name x pos')) pos.line X.env = pure false := by rfl) (hf : X.fn x = true ∨ X.env.scope.names.lookup x = some .local := by first | exact .inl rfl | exact .inr rfl) (hlen : i < own.n := by decide) :
    SD X own (.Assign [.Name x pos'] e pos) (fSet i f) :=
  ⟨fun A hk hw => (ps_set hN hi hx (he.run A hk hw) hs hf).imp fun E σ H ⟨ρ, s, fl, ρ', s', R, hf, q⟩ => by
    unfold fSet at hf
    cases h0 : f ρ s with
    | none => rw [h0] at hf; cases hf
    | some y =>
      rw [h0] at hf
      cases hf
      refine ⟨ρ, s, y.1, y.2, R, h0, fun p H1 o R1 k1 hp ho => ?_⟩
      obtain ⟨R2, F2⟩ := R1.setOwn (hw.isown hw1) hp ho (by rw [R1.nl, hw.n]; exact hlen)
      exact q _ _ R2 (k1.fr.trans F2)⟩
end
end DL
/-! Targets, stores of several names, methods of one's own lists. -/
namespace DL
open PySem PySem.Spec L2 GX

/-! ### more barred addresses -/
def Act.add (A : Act) (ps : List Addr) : Act := { A with ex := fun a => A.ex a ∨ a ∈ ps }
theorem Act.add_nil (A : Act) : A.add [] = A := by
  unfold Act.add
  have e : (fun a => A.ex a ∨ a ∈ ([] : List Addr)) = A.ex := by
    funext a
    simp
  rw [e]
theorem Act.add_of {A : Act} {W : Slots} (h : A.Of W) (ps : List Addr) : (A.add ps).Of W := ⟨h.own, h.fx, h.n, h.sl, h.tb, h.scr⟩
section
variable {A : Act} {ρ : Env} {s : Src} {σ : L2.St} {H : Hp} {v : V} {d : D} {i : Nat} {W : Slots} {ps : List Addr}
theorem add_root {a : Addr} : IsRoot (A.add ps) σ a ↔ IsRoot A σ a := Iff.rfl
/-- a new object is laid and barred -/
theorem Rel.push (R : Rel A ρ s σ H) {p : Addr} {o : HO} (hp : H p = none) : Rel (A.add [p]) ρ s σ (upd H p o) ∧ Same (fre A σ H) (fre (A.add [p]) σ (upd H p o)) := by
  have sm : Same (fre A σ H) (fre (A.add [p]) σ (upd H p o)) := fun a ob h => by
    obtain ⟨m1, m2⟩ := fre_no h
    have ha := fre_same a ob h
    have ne : a ≠ p := ne_of_none ha hp
    exact fre_of (same_upd hp a ob ha) m1 fun z => z.elim m2 fun z => ne (List.mem_singleton.mp z)
  obtain ⟨n1, n2, n3⟩ := R.new hp
  refine ⟨⟨R.len, R.nl, fun a ob h n => same_upd hp _ _ (R.keep a ob h n), fun q h => ?_, fun a h => ?_, R.fix, fun j e h n => ?_, fun j e h n => ?_, fun j q n h => ?_, R.inj, fun q h => let ⟨t, u1, u2⟩ := R.tabs q h; ⟨t.keep fun o e => same_upd hp _ _ e, u1, .inl u2⟩⟩, sm⟩
  · obtain ⟨a1, a2, a3⟩ := R.src q h
    exact ⟨same_upd hp _ _ a1, a2, .inl a3⟩
  · rcases h with h | h
    · obtain ⟨ob, q⟩ := R.exin a h
      exact ⟨ob, same_upd hp _ _ q⟩
    · rw [List.mem_singleton.mp h]; exact ⟨o, upd_same⟩
  · obtain ⟨v, h1, h2⟩ := R.val j e h n
    exact ⟨v, h1, h2.mono sm⟩
  · obtain ⟨q, ob, h1, h2, h3⟩ := R.ownv j e h n
    exact ⟨q, ob, h1, same_upd hp _ _ h2, h3.mono sm⟩
  · obtain ⟨a1, a2, ob, a3⟩ := R.root j q n h
    refine ⟨a1, fun z => z.elim a2 fun z => ?_, ob, same_upd hp _ _ a3⟩
    rw [List.mem_singleton.mp z, hp] at a3; cases a3
/-- a barred object becomes a slot's -/
theorem Rel.adopt {p : Addr} {o : HO} (R : Rel (A.add (p :: ps)) ρ s σ H) (hi : i ∈ A.own) (hl : i < ρ.length) (hp : H p = some o) (ho : HasO A.K A.w (fre (A.add (p :: ps)) σ H) p o d) (nx : ¬ A.ex p) (np : p ∉ ps) (n0 : A.H0 p = none) (nr : ¬ IsRoot A σ p) :
    Rel (A.add ps) (ρ.set i (some d)) s (σ.set i (some (.ref p))) H ∧ (∀ a, IsRoot A (σ.set i (some (.ref p))) a → IsRoot A σ a ∨ a = p) ∧ Same (fre (A.add (p :: ps)) σ H) (fre (A.add ps) (σ.set i (some (.ref p))) H) := by
  have hls : i < σ.length := by rw [← R.len]; exact hl
  have rt : ∀ a, IsRoot A (σ.set i (some (.ref p))) a → IsRoot A σ a ∨ a = p := fun a ⟨j, h1, h2⟩ => by
    by_cases e : i = j
    · subst e
      rw [List.getElem?_set_self hls] at h2
      injection h2 with h2; injection h2 with h2; injection h2 with h2
      exact .inr h2.symm
    · rw [List.getElem?_set_ne e] at h2
      exact .inl ⟨j, h1, h2⟩
  have sm : Same (fre (A.add (p :: ps)) σ H) (fre (A.add ps) (σ.set i (some (.ref p))) H) := fun a ob h => by
    obtain ⟨m1, m2⟩ := fre_no h
    refine fre_of (fre_same a ob h) (fun z => ?_) fun z => m2 (z.elim .inl fun z => .inr (List.mem_cons_of_mem _ z))
    rcases rt a z with z | z
    · exact m1 z
    · exact m2 (.inr (by rw [z]; exact List.mem_cons_self))
  refine ⟨⟨?_, by rw [List.length_set]; exact R.nl, R.keep, fun q h => ?_, fun a h => ?_, fun q hq => ?_, fun j e h n => ?_, fun j e h n => ?_, fun j q n h => ?_, fun j k q n m h1 h2 => ?_, fun q h => ?_⟩, rt, sm⟩
  · rw [List.length_set, List.length_set]; exact R.len
  · obtain ⟨a1, a2, a3⟩ := R.src q h
    refine ⟨a1, a2, ?_⟩
    rcases a3 with a3 | a3
    · exact .inl a3
    · rcases List.mem_cons.mp a3 with e | e
      · rw [e] at a2; exact absurd n0 a2
      · exact .inr e
  · exact R.exin a (h.elim .inl fun z => .inr (List.mem_cons_of_mem _ z))
  · obtain ⟨f1, f2, f3⟩ := R.fix q hq
    have ne : i ≠ q.1 := fun e => f2 (by rw [← e]; exact hi)
    rw [List.getElem?_set_ne ne, List.getElem?_set_ne ne]
    exact ⟨f1, f2, f3⟩
  · have ne : i ≠ j := fun q => n (by rw [← q]; exact hi)
    rw [List.getElem?_set_ne ne] at h ⊢
    obtain ⟨v, h1, h2⟩ := R.val j e h n
    exact ⟨v, h1, h2.mono sm⟩
  · by_cases ne : i = j
    · subst ne
      rw [List.getElem?_set_self hl] at h
      injection h with h; injection h with h; subst h
      exact ⟨p, o, List.getElem?_set_self hls, hp, ho.mono sm⟩
    · rw [List.getElem?_set_ne ne] at h ⊢
      obtain ⟨q, ob, h1, h2, h3⟩ := R.ownv j e h n
      exact ⟨q, ob, h1, h2, h3.mono sm⟩
  · by_cases ne : i = j
    · subst ne
      rw [List.getElem?_set_self hls] at h
      injection h with h; injection h with h; injection h with h; subst h
      exact ⟨n0, fun z => z.elim nx np, o, hp⟩
    · rw [List.getElem?_set_ne ne] at h
      obtain ⟨a1, a2, ob, a3⟩ := R.root j q n h
      exact ⟨a1, fun z => a2 (z.elim .inl fun z => .inr (List.mem_cons_of_mem _ z)), ob, a3⟩
  · have old : ∀ j q, i ≠ j → j ∈ A.own → (σ.set i (some (.ref p)))[j]? = some (some (.ref q)) → q ≠ p := fun j q ne n h e => by
      rw [List.getElem?_set_ne ne] at h
      exact nr ⟨j, n, by rw [← e]; exact h⟩
    by_cases e1 : i = j
    · by_cases e2 : i = k
      · rw [← e1, ← e2]
      · subst e1
        have := old k q e2 m h2
        rw [List.getElem?_set_self hls] at h1
        injection h1 with h1; injection h1 with h1; injection h1 with h1
        exact absurd h1.symm this
    · by_cases e2 : i = k
      · subst e2
        have := old j q e1 n h1
        rw [List.getElem?_set_self hls] at h2
        injection h2 with h2; injection h2 with h2; injection h2 with h2
        exact absurd h2.symm this
      · rw [List.getElem?_set_ne e1] at h1
        rw [List.getElem?_set_ne e2] at h2
        exact R.inj j k q n m h1 h2
  · obtain ⟨t, u1, u2⟩ := R.tabs q h
    refine ⟨t, u1, ?_⟩
    rcases u2 with u2 | u2
    · exact .inl u2
    · rcases List.mem_cons.mp u2 with e | e
      · rw [e] at u1; exact absurd n0 u1
      · exact .inr e
end

/-! ### lists of expressions of which some are new objects -/
theorem Act.add_add (A : Act) (ps qs : List Addr) : (A.add ps).add qs = A.add (ps ++ qs) := by
  unfold Act.add
  have e : (fun a => (A.ex a ∨ a ∈ ps) ∨ a ∈ qs) = fun a => A.ex a ∨ a ∈ ps ++ qs := by
    funext a
    simp [or_assoc]
  simp only [e]
/-- values and what they bear; true: a new object, barred -/
inductive Mix (K : PySem.W.Frag) (w : World) (G : Addr → Prop) (F : Hp) (H : Hp) : List Bool → List V → List D → List Addr → Prop
  | nil : Mix K w G F H [] [] [] []
  | val {v d bs vs ds qs} : Den K F v d → Mix K w G F H bs vs ds qs → Mix K w G F H (false :: bs) (v :: vs) (d :: ds) qs
  | new {p o d bs vs ds qs} : G p → H p = some o → HasO K w F p o d → p ∉ qs → Mix K w G F H bs vs ds qs → Mix K w G F H (true :: bs) (.ref p :: vs) (d :: ds) (p :: qs)
theorem Mix.mono {K : PySem.W.Frag} {w : World} {G G' : Addr → Prop} {F F' H H' : Hp} (e : Same F F') {bs : List Bool} {vs : List V} {ds : List D} {qs : List Addr} (m : Mix K w G F H bs vs ds qs) (hG : ∀ q, q ∈ qs → G q → G' q) (hH : ∀ q o, q ∈ qs → H q = some o → H' q = some o) : Mix K w G' F' H' bs vs ds qs := by
  induction m with
  | nil => exact .nil
  | val h _ ih => exact .val (h.mono e) (ih hG hH)
  | new h1 h2 h3 h4 _ ih => exact .new (hG _ List.mem_cons_self h1) (hH _ _ List.mem_cons_self h2) (h3.mono e) h4 (ih (fun q z => hG q (List.mem_cons_of_mem _ z)) fun q o z => hH q o (List.mem_cons_of_mem _ z))
theorem Mix.all {K : PySem.W.Frag} {w : World} {G : Addr → Prop} {F H : Hp} {bs : List Bool} {vs : List V} {ds : List D} {qs : List Addr} (m : Mix K w G F H bs vs ds qs) : ∀ q ∈ qs, G q := by
  induction m with
  | nil => intro q h; cases h
  | val _ _ ih => exact ih
  | new h1 _ _ _ _ ih =>
    intro q h
    rcases List.mem_cons.mp h with e | h
    · rw [e]; exact h1
    · exact ih q h
def tM (A : Act) (bs : List Bool) (f : FA) : TA := fun σ H Q => ∃ ρ s ds s', Rel A ρ s σ H ∧ f ρ s = some (ds, s') ∧ ∀ vs H' qs, Rel (A.add qs) ρ s' σ H' → Kp A H H' → Mix A.K A.w (fun p => H p = none) (fre (A.add qs) σ H') H' bs vs ds qs → Q vs H'
def tMx (X : Cx) (W : Slots) (bs : List Bool) (f : FA) : TA := fun σ H Q => ∃ A : Act, A.At X ∧ A.Of W ∧ tM A bs f σ H Q
structure PAM (X : Cx) (own : Slots) (es : List Expr) (bs : List Bool) (f : FA) : Prop where
  run : PA X es (tMx X own bs f)
section
variable {X : Cx} {own : Slots} {e : Expr} {es : List Expr} {bs : List Bool} {f : FE} {g : FA} {pos : Pos}
theorem pe_ex {t : Act → TE} (h : ∀ A : Act, A.At X → A.Of own → PE X e (t A)) : PE X e (fun σ H Q => ∃ A : Act, A.At X ∧ A.Of own ∧ t A σ H Q) :=
  ⟨fun pins s σ H Q I ⟨A, hk, hw, q⟩ => (h A hk hw).run pins s σ H Q I q⟩
theorem pam_nil : PAM X own [] [] fNil := ⟨pa_nil.imp fun σ H Q ⟨A, hk, hw, ρ, s, d, s', R, hf, q⟩ => by
  cases hf
  exact q [] H [] (by rw [Act.add_nil]; exact R) (Kp.refl _ _) .nil⟩
theorem pam_val (ha : PD X own e f) (hr : PAM X own es bs g) (hs : starEach (e :: es) X.env = (false, eval e X.env) :: starEach es X.env := by rfl) : PAM X own (e :: es) (false :: bs) (fCons f g) :=
  ⟨(pa_cons (pe_ex ha.run) hr.run hs).imp fun σ H Q ⟨A, hk, hw, ρ, s, ds, s', R, hf, q⟩ => by
    obtain ⟨d, s1, es, h1, h2, rfl⟩ := fCons_some hf
    refine ⟨A, hk, hw, ρ, s, d, s1, R, h1, fun v H1 R1 k1 t1 => ⟨A, hk, hw, ρ, s1, es, s', R1, h2, fun vs H2 qs R2 k2 m2 => ?_⟩⟩
    refine q _ H2 qs R2 (k1.trans k2) (.val (t1.mono fun a o h => ?_) (m2.mono (Same.refl _) (fun p hp z => ?_) fun _ _ _ z => z))
    · obtain ⟨n1, n2⟩ := fre_no h
      have ha := fre_same a o h
      have ns : ¬ A.mv a := fun z => n2 (R1.mvEx z)
      refine fre_of (k2 a o ha ns) n1 fun z => z.elim n2 fun z => ?_
      have := m2.all a z
      rw [ha] at this; cases this
    · cases e : H p with
      | none => rfl
      | some o =>
        by_cases ns : A.mv p
        · obtain ⟨_, this⟩ := R1.mvAt ns
          rw [z] at this; cases this
        · have := k1 p o e ns
          rw [z] at this; cases this⟩
theorem pam_new (ha : PF X own e f) (hr : PAM X own es bs g) (hs : starEach (e :: es) X.env = (false, eval e X.env) :: starEach es X.env := by rfl) : PAM X own (e :: es) (true :: bs) (fCons f g) :=
  ⟨(pa_cons (pe_ex ha.run) hr.run hs).imp fun σ H Q ⟨A, hk, hw, ρ, s, ds, s', R, hf, q⟩ => by
    obtain ⟨d, s1, es, h1, h2, rfl⟩ := fCons_some hf
    refine ⟨A, hk, hw, ρ, s, d, s1, R, h1, fun p H1 o R1 k1 hp ho => ?_⟩
    obtain ⟨R1', sm⟩ := R1.push (o := o) hp
    refine ⟨A.add [p], hk, Act.add_of hw _, ρ, s1, es, s', R1', h2, fun vs H2 qs R2 k2 m2 => ?_⟩
    rw [Act.add_add] at R2 m2
    have ns : ¬ A.mv p := fun z => by
      obtain ⟨_, this⟩ := R1.mvAt z
      rw [hp] at this; cases this
    have hp2 : H2 p = some o := k2 p o upd_same ns
    have old : ∀ p', H1 p' = none → H p' = none := fun p' z => by
      cases e : H p' with
      | none => rfl
      | some o =>
        by_cases n : A.mv p'
        · obtain ⟨_, this⟩ := R1.mvAt n
          rw [z] at this; cases this
        · have := k1 p' o e n
          rw [z] at this; cases this
    have nq : ∀ q ∈ qs, H1 q = none ∧ q ≠ p := fun q hq => by
      have z := m2.all q hq
      have ne : q ≠ p := fun e => by rw [e, upd_same] at z; cases z
      rw [upd_ne ne] at z
      exact ⟨z, ne⟩
    have kk : Kp A H H2 := fun a oa ha n => k2 a oa (same_upd hp _ _ (k1 a oa ha n)) n
    have sm2 : Same (fre A σ H1) (fre (A.add ([p] ++ qs)) σ H2) := fun a oa h => by
      obtain ⟨n1, n2⟩ := fre_no h
      have ha := fre_same a oa h
      refine fre_of (k2 a oa (same_upd hp _ _ ha) fun z => n2 (R1.mvEx z)) n1 fun z => z.elim n2 fun z => ?_
      rcases List.mem_append.mp z with z | z
      · rw [List.mem_singleton.mp z, hp] at ha; cases ha
      · have := (nq a z).1
        rw [ha] at this; cases this
    refine q _ H2 (p :: qs) R2 kk (.new (old p hp) hp2 (ho.mono sm2) (fun z => (nq p z).2 rfl) (m2.mono (Same.refl _) (fun q hq _ => old q (nq q hq).1) fun _ _ _ z => z))⟩
/-- the slots take their values -/
def setAll (ρ : Env) : List Nat → List D → Env
  | i :: is, d :: ds => setAll (ρ.set i (some d)) is ds
  | _, _ => ρ
def setAllV (σ : L2.St) : List Nat → List V → L2.St
  | i :: is, v :: vs => setAllV (σ.set i (some v)) is vs
  | _, _ => σ
def slotsOk (W : Slots) : List Nat → List Bool → Bool
  | i :: is, true :: bs => W.own.contains i && decide (i < W.n) && slotsOk W is bs
  | i :: is, false :: bs => !W.own.contains i && !W.fx.contains i && slotsOk W is bs
  | [], [] => true
  | _, _ => false
theorem storeMix {A : Act} {W : Slots} (hw : A.Of W) : ∀ {is : List Nat} {bs : List Bool} {vs : List V} {ds : List D} {qs : List Addr} {ρ : Env} {s : Src} {σ : L2.St} {H : Hp}, slotsOk W is bs = true → Rel (A.add qs) ρ s σ H →
    Mix A.K A.w (fun p => ¬ A.ex p ∧ A.H0 p = none ∧ ¬ IsRoot A σ p) (fre (A.add qs) σ H) H bs vs ds qs → Rel A (setAll ρ is ds) s (setAllV σ is vs) H ∧ ∀ a, IsRoot A (setAllV σ is vs) a → IsRoot A σ a ∨ a ∈ qs := by
  intro is
  induction is with
  | nil =>
    intro bs vs ds qs ρ s σ H ok R m
    cases bs with
    | nil =>
      cases m
      rw [Act.add_nil] at R
      exact ⟨R, fun a h => .inl h⟩
    | cons b bs => cases b <;> cases ok
  | cons i is ih =>
    intro bs vs ds qs ρ s σ H ok R m
    cases m with
    | nil => cases ok
    | @val v d bs vs ds qs h m =>
      unfold slotsOk at ok
      simp only [Bool.and_eq_true, Bool.not_eq_true'] at ok
      have ni : i ∉ A.own := hw.nown ok.1.1
      have nf : i ∉ A.fix.map (·.1) := hw.nfix ok.1.2
      have R1 : Rel (A.add qs) (ρ.set i (some d)) s (σ.set i (some v)) H := R.set (A := A.add qs) ni nf fun d' e => by cases e; exact ⟨v, rfl, h⟩
      have m1 : Mix A.K A.w (fun p => ¬ A.ex p ∧ A.H0 p = none ∧ ¬ IsRoot A (σ.set i (some v)) p) (fre (A.add qs) (σ.set i (some v)) H) H bs vs ds qs := by
        rw [fre_set (A := A.add qs) ni]
        exact m.mono (Same.refl _) (fun q _ z => ⟨z.1, z.2.1, fun y => z.2.2 ((root_set ni _ q).mp y)⟩) fun _ _ _ z => z
      obtain ⟨r1, r2⟩ := ih ok.2 R1 m1
      exact ⟨r1, fun a h => (r2 a h).elim (fun z => .inl ((root_set ni _ a).mp z)) .inr⟩
    | @new p o d bs vs ds qs hG hp ho np m =>
      unfold slotsOk at ok
      simp only [Bool.and_eq_true, decide_eq_true_eq] at ok
      have hi : i ∈ A.own := hw.isown ok.1.1
      have hl : i < ρ.length := by rw [R.nl]; show i < A.n; rw [hw.n]; exact ok.1.2
      obtain ⟨R1, rt, sm⟩ := R.adopt hi hl hp ho hG.1 np hG.2.1 hG.2.2
      have m1 : Mix A.K A.w (fun p1 => ¬ A.ex p1 ∧ A.H0 p1 = none ∧ ¬ IsRoot A (σ.set i (some (.ref p))) p1) (fre (A.add qs) (σ.set i (some (.ref p))) H) H bs vs ds qs :=
        m.mono sm (fun q hq z => ⟨z.1, z.2.1, fun y => (rt q y).elim z.2.2 fun e => np (by rw [← e]; exact hq)⟩) fun _ _ _ z => z
      obtain ⟨r1, r2⟩ := ih ok.2 R1 m1
      refine ⟨r1, fun a h => ?_⟩
      rcases r2 a h with z | z
      · rcases rt a z with z | z
        · exact .inl z
        · exact .inr (by rw [z]; exact List.mem_cons_self)
      · exact .inr (List.mem_cons_of_mem _ z)
def fPar (is : List Nat) (g : FA) : FS := fun ρ s => (g ρ s).map fun x => (.nx, setAll ρ is x.1, x.2)
theorem par_of {A : Act} {W : Slots} {is : List Nat} (hk : A.At X) (hw : A.Of W) (ok : slotsOk W is bs = true) {E : Ends} {σ : L2.St} {H : Hp} (h : tS A (fPar is g) E σ H) : tMx X W bs g σ H (fun vs H1 => E.nx (setAllV σ is vs) H1) := by
  obtain ⟨ρ, s, fl, ρ', s', R, hf, q⟩ := h
  unfold fPar at hf
  cases h0 : g ρ s with
  | none => rw [h0] at hf; cases hf
  | some y =>
    rw [h0] at hf
    cases hf
    refine ⟨A, hk, hw, ρ, s, y.1, y.2, R, h0, fun vs H1 qs R1 k1 m1 => ?_⟩
    have m2 : Mix A.K A.w (fun p => ¬ A.ex p ∧ A.H0 p = none ∧ ¬ IsRoot A σ p) (fre (A.add qs) σ H1) H1 bs vs y.1 qs := m1.mono (Same.refl _) (fun p _ z => by
      obtain ⟨n1, n2, n3⟩ := R.new z
      exact ⟨n2, n3, n1⟩) fun _ _ _ z => z
    obtain ⟨R2, r2⟩ := storeMix hw ok R1 m2
    refine q _ H1 R2 fun a o ha n z => ⟨k1 a o ha z, fun y => ?_⟩
    rcases r2 a y with w | w
    · exact n w
    · have := m1.all a w
      rw [ha] at this; cases this
/-- a, b = x, y -/
theorem sd_par {x y : Str} {a b : Expr} {px py pt : Pos} {kt k2 pt2} (ha : PAM X own [a, b] bs g) (i j : Nat) (ok : slotsOk own [i, j] bs = true := by first | rfl | decide) (hc : X.calm = true := by rfl) (hN : X.N.Nodup := by assumption) (hi : X.N[i]? = some x := by rfl) (hj : X.N[j]? = some y := by rfl) (hij : i ≠ j := by decide)
    (hx : X.env.scope.names.lookup x = some .local := by rfl) (hy : X.env.scope.names.lookup y = some .local := by rfl)
    (hw : swappedStores [.Tuple [.Name x px, .Name y py] kt pt] (.Tuple [a, b] k2 pt2) X.env = pure (some [x, y]) := by rfl)
    (hs : swapsWithSole [.Tuple [.Name x px, .Name y py] kt pt] (.Tuple [a, b] k2 pt2) pos.line X.env = pure false := by rfl) :
    SD X own (.Assign [.Tuple [.Name x px, .Name y py] kt pt] (.Tuple [a, b] k2 pt2) pos) (fPar [i, j] g) :=
  ⟨fun A hk ho => (ps_par hc hN hi hj hij hx hy ha.run hw hs).imp fun E σ H h => by
    obtain ⟨A2, q1, q2, ρ, s, ds, s', R, hf, q⟩ := par_of hk ho ok h
    refine ⟨A2, q1, q2, ρ, s, ds, s', R, hf, fun vs H1 qs R1 k1 m1 => ?_⟩
    have := q vs H1 qs R1 k1 m1
    cases bs with
    | nil => cases ok
    | cons b1 bs =>
      cases bs with
      | nil => cases b1 <;> simp [slotsOk] at ok
      | cons b2 bs =>
        cases bs with
        | cons b3 bs => cases b1 <;> cases b2 <;> simp [slotsOk] at ok
        | nil =>
          cases m1 with
          | val _ m1 => cases m1 with
            | val _ m1 => cases m1; exact ⟨_, _, rfl, this⟩
            | new _ _ _ _ m1 => cases m1; exact ⟨_, _, rfl, this⟩
          | new _ _ _ _ m1 => cases m1 with
            | val _ m1 => cases m1; exact ⟨_, _, rfl, this⟩
            | new _ _ _ _ m1 => cases m1; exact ⟨_, _, rfl, this⟩⟩
/-- a, b, c = x, y, z -/
theorem sd_par3 {x y z : Str} {a b c : Expr} {px py pz pt : Pos} {kt k2 pt2} (ha : PAM X own [a, b, c] bs g) (i j l : Nat) (ok : slotsOk own [i, j, l] bs = true := by first | rfl | decide) (hc : X.calm = true := by rfl) (hN : X.N.Nodup := by assumption) (hi : X.N[i]? = some x := by rfl) (hj : X.N[j]? = some y := by rfl) (hl : X.N[l]? = some z := by rfl) (hij : i ≠ j := by decide) (hil : i ≠ l := by decide) (hjl : j ≠ l := by decide)
    (hx : X.env.scope.names.lookup x = some .local := by rfl) (hy : X.env.scope.names.lookup y = some .local := by rfl) (hz : X.env.scope.names.lookup z = some .local := by rfl)
    (hw : swappedStores [.Tuple [.Name x px, .Name y py, .Name z pz] kt pt] (.Tuple [a, b, c] k2 pt2) X.env = pure (some [x, y, z]) := by rfl)
    (hs : swapsWithSole [.Tuple [.Name x px, .Name y py, .Name z pz] kt pt] (.Tuple [a, b, c] k2 pt2) pos.line X.env = pure false := by rfl) :
    SD X own (.Assign [.Tuple [.Name x px, .Name y py, .Name z pz] kt pt] (.Tuple [a, b, c] k2 pt2) pos) (fPar [i, j, l] g) :=
  ⟨fun A hk ho => (ps_par3 hc hN hi hj hl hij hil hjl hx hy hz ha.run hw hs).imp fun E σ H h => by
    obtain ⟨A2, q1, q2, ρ, s, ds, s', R, hf, q⟩ := par_of hk ho ok h
    refine ⟨A2, q1, q2, ρ, s, ds, s', R, hf, fun vs H1 qs R1 k1 m1 => ?_⟩
    have := q vs H1 qs R1 k1 m1
    have l1 : bs.length = 3 := by
      clear q m1 this
      rcases bs with _ | ⟨b1, _ | ⟨b2, _ | ⟨b3, _ | ⟨b4, bs⟩⟩⟩⟩
      · cases ok
      · cases b1 <;> simp [slotsOk] at ok
      · cases b1 <;> cases b2 <;> simp [slotsOk] at ok
      · rfl
      · cases b1 <;> cases b2 <;> cases b3 <;> simp [slotsOk] at ok
    have l2 : ∀ {bs vs ds qs} {G : Addr → Prop} {F Hh : Hp}, Mix A2.K A2.w G F Hh bs vs ds qs → vs.length = bs.length := by
      intro bs vs ds qs G F Hh m
      induction m with
      | nil => rfl
      | val _ _ ih => rw [List.length_cons, List.length_cons, ih]
      | new _ _ _ _ _ ih => rw [List.length_cons, List.length_cons, ih]
    have l3 := l2 m1
    rw [l1] at l3
    rcases vs with _ | ⟨v1, _ | ⟨v2, _ | ⟨v3, _ | ⟨v4, vs⟩⟩⟩⟩
    · cases l3
    · cases l3
    · cases l3
    · exact ⟨_, _, _, rfl, this⟩
    · simp at l3⟩
end
end DL
/-! Targets, what is walked, for, while, comprehensions. -/
namespace DL
open PySem PySem.Spec L2 GX

/-! ### targets: plain slots alone -/
def Only (js : List Nat) (σ σ' : L2.St) : Prop := σ'.length = σ.length ∧ ∀ j, j ∉ js → σ'[j]? = σ[j]?
theorem Only.refl (js : List Nat) (σ : L2.St) : Only js σ σ := ⟨rfl, fun _ _ => rfl⟩
theorem Only.trans {js ks : List Nat} {σ σ1 σ2 : L2.St} (a : Only js σ σ1) (b : Only ks σ1 σ2) : Only (js ++ ks) σ σ2 :=
  ⟨b.1.trans a.1, fun j h => (b.2 j fun z => h (List.mem_append_right _ z)).trans (a.2 j fun z => h (List.mem_append_left _ z))⟩
def tG (A : Act) (js : List Nat) (g : D → Env → Option Env) : TG := fun v σ H Q => ∃ ρ s d ρ', Rel A ρ s σ H ∧ Den A.K (fre A σ H) v d ∧ g d ρ = some ρ' ∧ ∀ σ', Rel A ρ' s σ' H → Only js σ σ' → (∀ a, IsRoot A σ' a ↔ IsRoot A σ a) → Q σ' H
def tGs (A : Act) (js : List Nat) (g : List D → Env → Option Env) : TGs := fun vs σ H Q => ∃ ρ s ds ρ', Rel A ρ s σ H ∧ DenAll A.K (fre A σ H) vs ds ∧ g ds ρ = some ρ' ∧ ∀ σ', Rel A ρ' s σ' H → Only js σ σ' → (∀ a, IsRoot A σ' a ↔ IsRoot A σ a) → Q σ' H
structure PGD (X : Cx) (own : Slots) (tg : Expr) (js : List Nat) (g : D → Env → Option Env) : Prop where
  run : ∀ A : Act, A.At X → A.Of own → PG X tg (tG A js g)
structure PGsD (X : Cx) (own : Slots) (tgs : List Expr) (js : List Nat) (n : Nat) (g : List D → Env → Option Env) : Prop where
  run : ∀ A : Act, A.At X → A.Of own → PGs X tgs (tGs A js g)
  len : ∀ ds ρ ρ', g ds ρ = some ρ' → ds.length = n
theorem _root_.L2.PG.imp {X : Cx} {e : Expr} {t t' : TG} (h : PG X e t) (q : ∀ v σ H Q, t' v σ H Q → t v σ H Q) : PG X e t' := ⟨fun pins s σ H v u Q I r hw => h.run pins s σ H v u Q I r (q v σ H Q hw)⟩
theorem _root_.L2.PGs.imp {X : Cx} {e : List Expr} {t t' : TGs} (h : PGs X e t) (q : ∀ v σ H Q, t' v σ H Q → t v σ H Q) : PGs X e t' := ⟨fun pins s σ H v u Q I r hw => h.run pins s σ H v u Q I r (q v σ H Q hw)⟩
def sName (i : Nat) : D → Env → Option Env := fun d ρ => some (ρ.set i (some d))
def sNil : List D → Env → Option Env := fun ds ρ => match ds with | [] => some ρ | _ => none
def sCons (g : D → Env → Option Env) (h : List D → Env → Option Env) : List D → Env → Option Env
  | d :: r, ρ => (g d ρ).bind (h r)
  | [], _ => none
theorem sCons_some {g : D → Env → Option Env} {h : List D → Env → Option Env} {d : D} {r : List D} {ρ ρ' : Env} (q : sCons g h (d :: r) ρ = some ρ') : ∃ ρ1, g d ρ = some ρ1 ∧ h r ρ1 = some ρ' := by
  have q : (g d ρ).bind (h r) = some ρ' := q
  cases h0 : g d ρ with
  | none => rw [h0] at q; cases q
  | some ρ1 => rw [h0] at q; exact ⟨ρ1, rfl, q⟩
def sTup (g : List D → Env → Option Env) : D → Env → Option Env := fun d ρ => match d with | .tuple ds => g ds ρ | _ => none
section
variable {X : Cx} {own : Slots} {e : Expr} {es : List Expr} {js ks : List Nat} {n : Nat} {g : D → Env → Option Env} {h : List D → Env → Option Env} {pos : Pos} {x : Str}
theorem fre_iff {A : Act} {σ σ' : L2.St} {H : Hp} (r : ∀ a, IsRoot A σ' a ↔ IsRoot A σ a) : fre A σ' H = fre A σ H := by
  funext a
  unfold fre
  by_cases h : IsRoot A σ a ∨ A.ex a
  · rw [if_pos h, if_pos (h.elim (fun z => .inl ((r a).mpr z)) .inr)]
  · rw [if_neg h, if_neg (fun z => h (z.elim (fun z => .inl ((r a).mp z)) .inr))]
theorem pgd_name (i : Nat) (hw1 : own.own.contains i = false := by rfl) (hw2 : own.fx.contains i = false := by rfl) (hN : X.N.Nodup := by assumption) (hi : X.N[i]? = some x := by rfl) (hx : Loc X.env.scope x := by first | exact Or.inl rfl | exact Or.inr rfl)
    (hf : X.fn x = true ∨ X.env.scope.names.lookup x = some .local := by first | exact .inl rfl | exact .inr rfl) : PGD X own (.Name x pos) [i] (sName i) :=
  ⟨fun A hk hw => (pg_name hN hi hx hf).imp fun v σ H Q ⟨ρ, s, d, ρ', R, hd, hg, q⟩ => by
    cases hg
    refine q _ (R.set (hw.nown hw1) (hw.nfix hw2) fun d' e => by cases e; exact ⟨v, rfl, hd⟩) ⟨by rw [List.length_set], fun j hj => ?_⟩ (root_set (hw.nown hw1) _)
    rw [List.getElem?_set_ne (fun e => hj (by rw [e]; exact List.mem_singleton.mpr rfl))]⟩
theorem pgsd_nil : PGsD X own [] [] 0 sNil where
 run := fun A hk hw => pgs_nil.imp fun vs σ H Q ⟨ρ, s, ds, ρ', R, hd, hg, q⟩ => by
  cases ds with
  | nil =>
    cases hd
    cases hg
    exact ⟨rfl, q σ R (Only.refl _ _) fun _ => Iff.rfl⟩
  | cons d r => cases hg
 len := fun ds ρ ρ' hg => by
  cases ds with
  | nil => rfl
  | cons d r => cases hg
theorem pgsd_cons (h1 : PGD X own e js g) (h2 : PGsD X own es ks n h) (hs : (assignEach (e :: es) X.env).map (·.2) = assign e X.env :: (assignEach es X.env).map (·.2) := by rfl) : PGsD X own (e :: es) (js ++ ks) (n + 1) (sCons g h) where
 run := fun A hk hw => (pgs_cons (h1.run A hk hw) (h2.run A hk hw) hs).imp fun vs σ H Q ⟨ρ, s, ds, ρ', R, hd, hg, q⟩ => by
    cases ds with
    | nil => cases hg
    | cons d r =>
      cases hd with
      | cons d1 d2 =>
        obtain ⟨ρ1, h0, hg⟩ := sCons_some hg
        exact ⟨_, _, rfl, ρ, s, d, ρ1, R, d1, h0, fun σ1 R1 o1 i1 => ⟨ρ1, s, r, ρ', R1, by rw [fre_iff i1]; exact d2, hg, fun σ2 R2 o2 i2 => q σ2 R2 (o1.trans o2) fun a => (i2 a).trans (i1 a)⟩⟩
 len := fun ds ρ ρ' hg => by
    cases ds with
    | nil => cases hg
    | cons d r =>
      obtain ⟨ρ1, h0, hg⟩ := sCons_some hg
      rw [List.length_cons, h2.len _ _ _ hg]
theorem pgd_tup {k : Nat} (hh : PGsD X own es js n h) (hc : X.calm = true := by rfl) (hn : (assignEach es X.env).length = n := by rfl) (hst : (assignEach es X.env).findIdx? (·.1) = none := by rfl) : PGD X own (.Tuple es k pos) js (sTup h) :=
  ⟨fun A hk hw => (pg_tup hc (hh.run A hk hw) hn hst).imp fun v σ H Q ⟨ρ, s, d, ρ', R, hd, hg, q⟩ => by
    unfold sTup at hg
    split at hg
    · rename_i ds
      cases hd with
      | tup ha hds => exact ⟨_, _, rfl, hk.1 ▸ seqT_fre ha, by rw [hds.length]; exact hh.len _ _ _ hg, ρ, s, ds, ρ', R, hds, hg, q⟩
    · cases hg⟩
/-- a, b = e -/
def fAsg (g : D → Env → Option Env) (f : FE) : FS := fun ρ s => (f ρ s).bind fun x => (g x.1 ρ).map fun ρ1 => (.nx, ρ1, x.2)
theorem sd_asg {tg : Expr} {f : FE} (he : PD X own e f) (hg : PGD X own tg js g) (hs : swapsWithSole [tg] e pos.line X.env = pure false := by rfl) (hw : swappedStores [tg] e X.env = pure none := by rfl)
    (h1 : (assignEach [tg] X.env).map (·.2) = [assign tg X.env] := by rfl) : SD X own (.Assign [tg] e pos) (fAsg g f) :=
  ⟨fun A hk ho => (ps_asg (he.run A hk ho) (hg.run A hk ho) hs hw h1).imp fun E σ H ⟨ρ, s, fl, ρ', s', R, hf, q⟩ => by
    unfold fAsg at hf
    cases h0 : f ρ s with
    | none => rw [h0] at hf; cases hf
    | some y =>
      rw [h0, Option.bind_some] at hf
      cases h1 : g y.1 ρ with
      | none => rw [h1] at hf; cases hf
      | some ρ1 =>
        rw [h1] at hf
        cases hf
        exact ⟨ρ, s, y.1, y.2, R, h0, fun v H1 R1 k1 d1 => ⟨ρ, y.2, y.1, _, R1, d1, h1, fun σ' R2 _ i2 => q σ' H1 R2 fun a o ha n z => ⟨k1 a o ha z, fun w => n ((i2 a).mp w)⟩⟩⟩⟩
end

/-! ### what is walked -/
structure WalkD (K : PySem.W.Frag) (F C : Hp) (J : It) (items : List D) : Prop where
  goes : ∀ i H, i < items.length → Same F H → J.go i H
  stops : ∀ H, Same F H → J.stop items.length H
  yields : ∀ i H x H', i < items.length → Same F H → J.yld i H x H' → ∃ d, items[i]? = some d ∧ ((H' = H ∧ Den K C x d) ∨ ∃ T vs ds, x = .ref T ∧ H T = none ∧ H' = upd H T (.tup vs) ∧ DenAll K C vs ds ∧ d = .tuple ds ∧ pl ds = false)
abbrev FI := Env → Src → Option (List D × Src)
def tI (A : Act) (strong : Bool) (f : FI) : TI := fun σ H R => ∃ ρ s items s', Rel A ρ s σ H ∧ f ρ s = some (items, s') ∧ ∀ J F H1, Rel A ρ s' σ H1 → Kp A H H1 → Same F H1 → (∀ a o, F a = some o → ¬ A.mv a) → (strong = true → ∀ a o, F a = some o → ¬ IsRoot A σ a) →
  WalkD A.K F (fre A σ H1) J items → R J H1
structure PID (X : Cx) (own : Slots) (tg iter : Expr) (strong : Bool) (f : FI) : Prop where
  run : ∀ A : Act, A.At X → A.Of own → PI X tg iter (tI A strong f)
theorem _root_.L2.PI.imp {X : Cx} {tg e : Expr} {t t' : TI} (h : PI X tg e t) (q : ∀ σ H R, t' σ H R → t σ H R) : PI X tg e t' := ⟨fun pins s σ H R I hw => h.run pins s σ H R I (q σ H R hw)⟩
section
variable {X : Cx} {own : Slots} {tg e : Expr} {es : List Expr} {pos : Pos} {x : Str} {f : FE}
/-- a list or a tuple -/
def iSeq (K : PySem.W.Frag) (tl : TE) : TI := fun σ H R => tl σ H fun x H1 => ∃ a, x = .ref a ∧ (((∃ xs, SqL K H1 a xs) ∧ R (Itl K a) H1) ∨ ((∃ xs, SqT K H1 a xs) ∧ R (Itt K a) H1))
theorem pi_seq {l : Expr} {tl : TE} (hl : PE X l tl) : PI X tg l (iSeq X.K tl) := by
  refine ⟨fun pins s σ H R I h => ?_⟩
  refine thn (hl.run pins s σ H _ I h) fun v s1 ⟨x, H1, I1, r1, q1⟩ => ?_
  obtain ⟨a, e, q1⟩ := q1
  subst e
  cases r1
  rcases q1 with ⟨⟨xs, hq⟩, q⟩ | ⟨⟨xs, hq⟩, q⟩
  · obtain ⟨its, rv, p, hz⟩ := I1.list hq
    refine wpAny_pyIter_list p.isList ?_
    refine ⟨s1.heap.objs.size, [s1.heap.objs.size], _, _, H1, rfl, I1.kept (t' := s1.toks) fun b o e => Heap.get?_push_of_some _ e, turn_list a _, ⟨_, Heap.get?_push_size _ rfl, rfl, rfl⟩, fun b hb => ?_, q⟩
    have e : b = s1.heap.objs.size := by simpa using hb
    subst e
    exact I1.fpOk (Nat.le_refl _) (I1.hok.fresh (Nat.le_refl _))
  · obtain ⟨its, rv, p, hz⟩ := I1.tuple hq
    refine wpAny_pyIter_tuple (show s1.heap.IsTuple a its.toArray from p) ?_
    refine ⟨s1.heap.objs.size, [s1.heap.objs.size], _, _, H1, rfl, I1.kept (t' := s1.toks) fun b o e => Heap.get?_push_of_some _ e, turn_tuple a _, ⟨_, Heap.get?_push_size _ rfl, rfl, rfl⟩, fun b hb => ?_, q⟩
    have e : b = s1.heap.objs.size := by simpa using hb
    subst e
    exact I1.fpOk (Nat.le_refl _) (I1.hok.fresh (Nat.le_refl _))
def fSeqI (f : FE) : FI := fun ρ s => (f ρ s).bind fun x => (itemsD x.1).map (·, x.2)
theorem fSeqI_some {ρ : Env} {s s' : Src} {ds : List D} (h : fSeqI f ρ s = some (ds, s')) : ∃ d, f ρ s = some (d, s') ∧ itemsD d = some ds := by
  unfold fSeqI at h
  cases h0 : f ρ s with
  | none => rw [h0] at h; cases h
  | some y =>
    rw [h0, Option.bind_some] at h
    cases h1 : itemsD y.1 with
    | none => rw [h1] at h; cases h
    | some z =>
      rw [h1] at h
      cases h
      exact ⟨y.1, rfl, h1⟩
/-- one object alone -/
def onlyAt (a : Addr) (o : HO) : Hp := fun b => if b = a then some o else none
theorem onlyAt_some {a b : Addr} {o u : HO} (h : onlyAt a o b = some u) : b = a ∧ u = o := by
  unfold onlyAt at h
  split at h
  · exact ⟨by assumption, (Option.some.inj h).symm⟩
  · cases h
theorem walkL {K : PySem.W.Frag} {C : Hp} {a : Addr} {vs : List V} {ds : List D} (h : DenAll K C vs ds) : WalkD K (onlyAt a (.lst vs)) C (Itl K a) ds where
  goes := fun i H hi sm => by
    have ha : SqL K H a vs := SqL.of (sm a (.lst vs) (by unfold onlyAt; rw [if_pos rfl]))
    have hv : i < vs.length := by rw [h.length]; exact hi
    exact ⟨vs, vs[i], ha, by simp [hv]⟩
  stops := fun H sm => ⟨vs, SqL.of (sm a (.lst vs) (by unfold onlyAt; rw [if_pos rfl])), by rw [h.length]; exact Nat.le_refl _⟩
  yields := fun i H x H' hi sm y => by
    have ha : SqL K H a vs := SqL.of (sm a (.lst vs) (by unfold onlyAt; rw [if_pos rfl]))
    obtain ⟨e, y⟩ := y
    obtain ⟨d, h1, h2⟩ := h.get' (y vs ha)
    exact ⟨d, h1, .inl ⟨e, h2⟩⟩
theorem walkT {K : PySem.W.Frag} {F C : Hp} {a : Addr} {vs : List V} {ds : List D} (h : DenAll K C vs ds) (ha : SqT K F a vs) : WalkD K F C (Itt K a) ds where
  goes := fun i H hi sm => by
    have hv : i < vs.length := by rw [h.length]; exact hi
    exact ⟨vs, vs[i], Same.seqT sm ha, by simp [hv]⟩
  stops := fun H sm => ⟨vs, Same.seqT sm ha, by rw [h.length]; exact Nat.le_refl _⟩
  yields := fun i H x H' hi sm y => by
    obtain ⟨e, y⟩ := y
    obtain ⟨d, h1, h2⟩ := h.get' (y vs (Same.seqT sm ha))
    exact ⟨d, h1, .inl ⟨e, h2⟩⟩
theorem pid_seq (he : PD X own e f) : PID X own tg e true (fSeqI f) :=
  ⟨fun A hk hw => (pi_seq (he.run A hk hw)).imp fun σ H R ⟨ρ, s, ds, s', R0, hf, q⟩ => by
    obtain ⟨d, h1, h2⟩ := fSeqI_some hf
    refine ⟨ρ, s, d, s', R0, h1, fun v H1 R1 k1 d1 => ?_⟩
    unfold itemsD at h2
    split at h2
    · cases h2
      cases d1 with
      | @lst a vs _ ha hds =>
        obtain ⟨n1, n2⟩ := fre_no ha
        refine ⟨a, rfl, .inl ⟨⟨vs, SqL.of (fre_same _ _ ha)⟩, ?_⟩⟩
        rw [← hk.1]
        refine q _ (onlyAt a (.lst vs)) H1 R1 k1 (fun b o h => ?_) (fun b o h => ?_) (fun _ b o h => ?_) (walkL hds)
        · obtain ⟨rfl, rfl⟩ := onlyAt_some h; exact fre_same _ _ ha
        · obtain ⟨rfl, rfl⟩ := onlyAt_some h; exact fun z => n2 (R1.mvEx z)
        · obtain ⟨rfl, rfl⟩ := onlyAt_some h; exact n1
    · cases h2
      cases d1 with
      | @tup a vs _ ha hds =>
        refine ⟨a, rfl, .inr ⟨⟨vs, hk.1 ▸ seqT_fre ha⟩, ?_⟩⟩
        rw [← hk.1]
        exact q _ (fre A σ H1) H1 R1 k1 fre_same (fun b o h z => (fre_no h).2 (R1.mvEx z)) (fun _ b o h => (fre_no h).1) (walkT hds ha)
    · cases h2⟩
theorem pib_seq (he : PB X own e f) : PID X own tg e false (fSeqI f) :=
  ⟨fun A hk hw => (pi_seq (he.run A hk hw)).imp fun σ H R ⟨ρ, s, ds, s', R0, hf, q⟩ => by
    obtain ⟨d, h1, h2⟩ := fSeqI_some hf
    refine ⟨ρ, s, d, s', R0, h1, fun v H1 R1 k1 d1 => ?_⟩
    unfold itemsD at h2
    split at h2
    · cases h2
      obtain ⟨a, vs, rfl, n2, ha, hds⟩ := d1.list
      refine ⟨a, rfl, .inl ⟨⟨vs, SqL.of ha⟩, ?_⟩⟩
      rw [← hk.1]
      refine q _ (onlyAt a (.lst vs)) H1 R1 k1 (fun b o h => ?_) (fun b o h => ?_) (fun z => by cases z) (walkL hds)
      · obtain ⟨rfl, rfl⟩ := onlyAt_some h; exact ha
      · obtain ⟨rfl, rfl⟩ := onlyAt_some h; exact fun z => n2 (R1.mvEx z)
    · cases h2
      obtain ⟨a, vs, rfl, ha, hds⟩ := d1.tuple
      refine ⟨a, rfl, .inr ⟨⟨vs, hk.1 ▸ seqT_fre ha⟩, ?_⟩⟩
      rw [← hk.1]
      exact q _ (fre A σ H1) H1 R1 k1 fre_same (fun b o h z => (fre_no h).2 (R1.mvEx z)) (fun z => by cases z) (walkT hds ha)
    · cases h2⟩
/-- range(n), range(a, b) -/
def rangeD (lo : Int) : Nat → List D
  | 0 => []
  | n + 1 => .int lo :: rangeD (lo + 1) n
theorem rangeD_length : ∀ (n : Nat) (lo : Int), (rangeD lo n).length = n
  | 0, _ => rfl
  | n + 1, lo => by unfold rangeD; rw [List.length_cons, rangeD_length n]
theorem rangeD_get : ∀ (n : Nat) (lo : Int) (i : Nat), i < n → (rangeD lo n)[i]? = some (.int (lo + i))
  | 0, _, _, h => by omega
  | n + 1, lo, 0, _ => by unfold rangeD; simp
  | n + 1, lo, i + 1, h => by
    unfold rangeD
    rw [List.getElem?_cons_succ, rangeD_get n (lo + 1) i (by omega)]
    congr 2
    omega
def dRange1 : List D → Option (List D)
  | [.int n] => if -(2 ^ 62) ≤ n ∧ n < 2 ^ 62 then some (rangeD 0 n.toNat) else none
  | _ => none
def dRange2 : List D → Option (List D)
  | [.int a, .int b] => if (-(2 ^ 62) ≤ a ∧ a < 2 ^ 62) ∧ -(2 ^ 62) ≤ b ∧ b < 2 ^ 62 then some (rangeD a (b - a).toNat) else none
  | _ => none
def fRng (k : List D → Option (List D)) (g : FA) : FI := fun ρ s => (g ρ s).bind fun x => (k x.1).map (·, x.2)
theorem fRng_some {k : List D → Option (List D)} {g : FA} {ρ : Env} {s s' : Src} {ds : List D} (h : fRng k g ρ s = some (ds, s')) : ∃ es, g ρ s = some (es, s') ∧ k es = some ds := by
  unfold fRng at h
  cases h0 : g ρ s with
  | none => rw [h0] at h; cases h
  | some y =>
    rw [h0, Option.bind_some] at h
    cases h1 : k y.1 with
    | none => rw [h1] at h; cases h
    | some z =>
      rw [h1] at h
      cases h
      exact ⟨y.1, rfl, h1⟩
def noHp : Hp := fun _ => none
theorem walkR {K : PySem.W.Frag} {C : Hp} {lo : Int} {n : Nat} : WalkD K noHp C (Itr lo n) (rangeD lo n) where
  goes := fun i H hi _ => by rw [rangeD_length] at hi; exact hi
  stops := fun H _ => by rw [rangeD_length]; exact Nat.le_refl _
  yields := fun i H x H' hi _ y => by
    rw [rangeD_length] at hi
    obtain ⟨e, rfl⟩ := y
    exact ⟨_, rangeD_get n lo i hi, .inl ⟨e, .int _⟩⟩
theorem pid_range1 {a : Expr} {g : FA} {p pos : Pos} {b : Bool} (ha : PAB X own [a] g) (hm : X.mg "range" = none) (hg : Gl X "range" := by rfl) (hs : starEach [a] X.env = [(false, eval a X.env)] := by rfl) : PID X own tg (.Call (.Name "range" p) [a] [] pos) b (fRng dRange1 g) :=
  ⟨fun A hk hw => (pi_range1 hg hm (ha.run A hk hw) hs).imp fun σ H R ⟨ρ, s, ds, s', R0, hf, q⟩ => by
    obtain ⟨es, h1, h2⟩ := fRng_some hf
    refine ⟨ρ, s, es, s', R0, h1, fun vs H1 R1 k1 t1 => ?_⟩
    unfold dRange1 at h2
    split at h2
    · split at h2
      · rename_i n hn
        cases h2
        obtain ⟨v, rfl, t⟩ := t1.one
        have e := t.int; subst e
        exact ⟨n, rfl, hn.1, hn.2, q (Itr 0 n.toNat) noHp H1 R1 k1 (fun _ _ h => by cases h) (fun _ _ h => by cases h) (fun _ _ _ h => by cases h) walkR⟩
      · cases h2
    · cases h2⟩
theorem pid_range2 {a a2 : Expr} {g : FA} {p pos : Pos} {b : Bool} (ha : PAB X own [a, a2] g) (hm : X.mg "range" = none) (hg : Gl X "range" := by rfl) (hs : starEach [a, a2] X.env = [(false, eval a X.env), (false, eval a2 X.env)] := by rfl) (hs2 : starEach [a2] X.env = [(false, eval a2 X.env)] := by rfl) : PID X own tg (.Call (.Name "range" p) [a, a2] [] pos) b (fRng dRange2 g) :=
  ⟨fun A hk hw => (pi_range2 hg hm (ha.run A hk hw) hs hs2).imp fun σ H R ⟨ρ, s, ds, s', R0, hf, q⟩ => by
    obtain ⟨es, h1, h2⟩ := fRng_some hf
    refine ⟨ρ, s, es, s', R0, h1, fun vs H1 R1 k1 t1 => ?_⟩
    unfold dRange2 at h2
    split at h2
    · split at h2
      · rename_i i j hn
        cases h2
        obtain ⟨v, w, rfl, t, t2⟩ := t1.two
        have e := t.int; subst e
        have e := t2.int; subst e
        exact ⟨i, j, rfl, ⟨hn.1.1, hn.1.2, hn.2.1, hn.2.2⟩, q (Itr i (j - i).toNat) noHp H1 R1 k1 (fun _ _ h => by cases h) (fun _ _ h => by cases h) (fun _ _ _ h => by cases h) walkR⟩
      · cases h2
    · cases h2⟩
/-- zip of two lists, of two tuples -/
def zipD (ds es : List D) : List D := (ds.zip es).map fun p => .tuple [p.1, p.2]
def noPl (ds : List D) : Bool := ds.all fun d => match d with | .tuple es => !pl es | _ => true
theorem noPl_at {ds : List D} {i : Nat} {es : List D} (h : noPl ds = true) (e : ds[i]? = some (.tuple es)) : pl es = false := by
  have := List.all_eq_true.mp h _ (List.mem_of_getElem? e)
  simpa using this
def dZip : List D → Option (List D)
  | [.list ds, .list es] => if noPl (zipD ds es) = true then some (zipD ds es) else none
  | [.tuple ds, .tuple es] => if noPl (zipD ds es) = true then some (zipD ds es) else none
  | _ => none
theorem zipD_get {ds es : List D} {i : Nat} {d e : D} (h1 : ds[i]? = some d) (h2 : es[i]? = some e) : (zipD ds es)[i]? = some (.tuple [d, e]) := by
  unfold zipD
  rw [List.getElem?_map, List.getElem?_zip_eq_some.mpr (show ds[i]? = some (d, e).1 ∧ es[i]? = some (d, e).2 from ⟨h1, h2⟩)]
  rfl
theorem zipD_length (ds es : List D) : (zipD ds es).length = min ds.length es.length := by
  unfold zipD
  rw [List.length_map, List.length_zip]
def twoAt (a : Addr) (o : HO) (b : Addr) (u : HO) : Hp := fun c => if c = a then some o else if c = b then some u else none
theorem walkZL {K : PySem.W.Frag} {C : Hp} {a b : Addr} {vs ws : List V} {ds es : List D} (h : DenAll K C vs ds) (h' : DenAll K C ws es) (F : Hp) (ha : F a = some (.lst vs)) (hb : F b = some (.lst ws)) (np : noPl (zipD ds es) = true) : WalkD K F C (Itz K a b) (zipD ds es) := by
  have W := fun (H : Hp) (sm : Same F H) => walk_zip (K := K) (a := a) (b := b) (xs := vs) (ys := ws) rfl
  have hl : (zipD ds es).length = min vs.length ws.length := by rw [zipD_length, h.length, h'.length]
  refine ⟨fun i H hi sm => ?_, fun H sm => ?_, fun i H x H' hi sm y => ?_⟩
  · rw [hl] at hi
    exact (W H sm).goes i H hi ⟨SqL.of (sm _ _ ha), SqL.of (sm _ _ hb)⟩
  · rw [hl]
    exact (W H sm).stops H ⟨SqL.of (sm _ _ ha), SqL.of (sm _ _ hb)⟩
  · have hi' := hi
    rw [hl] at hi
    obtain ⟨T, x1, x2, e1, e2, e3, e4, e5⟩ := (W H sm).yields i H x H' hi ⟨SqL.of (sm _ _ ha), SqL.of (sm _ _ hb)⟩ y
    obtain ⟨d, d1, d2⟩ := h.get' e4
    obtain ⟨d', d3, d4⟩ := h'.get' e5
    exact ⟨_, zipD_get d1 d3, .inr ⟨T, _, _, e1, e2, e3, .cons d2 (.cons d4 .nil), rfl, noPl_at np (zipD_get d1 d3)⟩⟩
theorem walkZT {K : PySem.W.Frag} {F C : Hp} {a b : Addr} {vs ws : List V} {ds es : List D} (h : DenAll K C vs ds) (h' : DenAll K C ws es) (ha : SqT K F a vs) (hb : SqT K F b ws) (np : noPl (zipD ds es) = true) : WalkD K F C (RZ.ItzT K a b) (zipD ds es) := by
  have hl : (zipD ds es).length = min vs.length ws.length := by rw [zipD_length, h.length, h'.length]
  refine ⟨fun i H hi sm => ?_, fun H sm => ?_, fun i H x H' hi sm y => ?_⟩
  · rw [hl] at hi
    have h1 : i < vs.length := by omega
    have h2 : i < ws.length := by omega
    exact ⟨vs, ws, vs[i], ws[i], Same.seqT sm ha, Same.seqT sm hb, by simp [h1], by simp [h2]⟩
  · rw [hl]
    exact ⟨vs, ws, Same.seqT sm ha, Same.seqT sm hb, by omega⟩
  · obtain ⟨T, x1, x2, e1, e2, e3, e4, e5⟩ := y
    obtain ⟨d, d1, d2⟩ := h.get' (e4 _ (Same.seqT sm ha))
    obtain ⟨d', d3, d4⟩ := h'.get' (e5 _ (Same.seqT sm hb))
    exact ⟨_, zipD_get d1 d3, .inr ⟨T, _, _, e1, e2, e3, .cons d2 (.cons d4 .nil), rfl, noPl_at np (zipD_get d1 d3)⟩⟩
theorem pid_zip {e2 : Expr} {g : FA} {p pos tpos : Pos} {elts : List Expr} {kk : Nat} (ha : PAD X own [e, e2] g) (hm : X.mg "zip" = none) (hg : Gl X "zip" := by rfl)
    (hs : starEach [e, e2] X.env = (false, eval e X.env) :: starEach [e2] X.env := by rfl) (hpl : (backTo pos (starEach [e2] X.env)).any (·.1) = false := by rfl) : PID X own (.Tuple elts kk tpos) (.Call (.Name "zip" p) [e, e2] [] pos) true (fRng dZip g) :=
  ⟨fun A hk hw => (RZ.pi_zipA hg hm (ha.run A hk hw) hs hpl).imp fun σ H R ⟨ρ, s, ds, s', R0, hf, q⟩ => by
    obtain ⟨es, h1, h2⟩ := fRng_some hf
    refine ⟨ρ, s, es, s', R0, h1, fun vs H1 R1 k1 t1 => ?_⟩
    unfold dZip at h2
    split at h2
    · split at h2
      case isFalse => cases h2
      rename_i np
      cases h2
      cases t1 with
      | cons t1 t2 => cases t2 with
        | cons t2 t3 =>
          cases t3
          cases t1 with
          | lst ha1 d1 => cases t2 with
            | lst ha2 d2 =>
              refine ⟨_, _, _, _, rfl, .inl ⟨SqL.of (fre_same _ _ ha1), SqL.of (fre_same _ _ ha2), ?_⟩⟩
              rw [← hk.1]
              exact q _ (fre A σ H1) H1 R1 k1 fre_same (fun b o h z => (fre_no h).2 (R1.mvEx z)) (fun _ b o h => (fre_no h).1) (walkZL d1 d2 _ ha1 ha2 np)
    · split at h2
      case isFalse => cases h2
      rename_i np
      cases h2
      cases t1 with
      | cons t1 t2 => cases t2 with
        | cons t2 t3 =>
          cases t3
          cases t1 with
          | tup ha1 d1 => cases t2 with
            | tup ha2 d2 =>
              refine ⟨_, _, _, _, rfl, .inr ⟨hk.1 ▸ seqT_fre ha1, hk.1 ▸ seqT_fre ha2, ?_⟩⟩
              rw [← hk.1]
              exact q _ (fre A σ H1) H1 R1 k1 fre_same (fun b o h z => (fre_no h).2 (R1.mvEx z)) (fun _ b o h => (fre_no h).1) (walkZT d1 d2 ha1 ha2 np)
    · cases h2⟩
end
end DL
/-! for, while, comprehensions. -/
namespace DL
open PySem PySem.Spec L2 GX

/-- what is wanted behind a statement that ends so -/
def EndOk (A : Act) (E : Ends) (σ : L2.St) (H : Hp) (ρ' : Env) (s' : Src) : Fl → Prop
  | .nx => ∀ σ' H', Rel A ρ' s' σ' H' → Fr A σ H σ' H' → E.nx σ' H'
  | .bk => ∀ σ' H', Rel A ρ' s' σ' H' → Fr A σ H σ' H' → E.bk σ' H'
  | .ct => ∀ σ' H', Rel A ρ' s' σ' H' → Fr A σ H σ' H' → E.ct σ' H'
  | .rt d => ∀ v σ' H', Rel A ρ' s' σ' H' → Fr A σ H σ' H' → Den A.K (bar A H') v d → E.rt v H'
theorem tS_of {A : Act} {f : FS} {E : Ends} {σ : L2.St} {H : Hp} {ρ ρ' : Env} {s s' : Src} {fl : Fl} (R : Rel A ρ s σ H) (hf : f ρ s = some (fl, ρ', s')) (q : EndOk A E σ H ρ' s' fl) : tS A f E σ H := by
  refine ⟨ρ, s, fl, ρ', s', R, hf, ?_⟩
  cases fl <;> exact q
theorem of_tS {A : Act} {f : FS} {E : Ends} {σ : L2.St} {H : Hp} (h : tS A f E σ H) : ∃ ρ s fl ρ' s', Rel A ρ s σ H ∧ f ρ s = some (fl, ρ', s') ∧ EndOk A E σ H ρ' s' fl := by
  obtain ⟨ρ, s, fl, ρ', s', R, hf, q⟩ := h
  refine ⟨ρ, s, fl, ρ', s', R, hf, ?_⟩
  cases fl <;> exact q
theorem EndOk.from {A : Act} {E : Ends} {σ σ1 : L2.St} {H H1 : Hp} {ρ' : Env} {s' : Src} {fl : Fl} (q : EndOk A E σ H ρ' s' fl) (F : Fr A σ H σ1 H1) : EndOk A E σ1 H1 ρ' s' fl := by
  cases fl with
  | nx => exact fun σ2 H2 R2 F2 => q σ2 H2 R2 (F.trans F2)
  | bk => exact fun σ2 H2 R2 F2 => q σ2 H2 R2 (F.trans F2)
  | ct => exact fun σ2 H2 R2 F2 => q σ2 H2 R2 (F.trans F2)
  | rt d => exact fun v σ2 H2 R2 F2 => q v σ2 H2 R2 (F.trans F2)

/-! ### for -/
def fLoop (set : D → Env → Option Env) (body : FS) : List D → FS
  | [], ρ, s => some (.nx, ρ, s)
  | d :: r, ρ, s => (set d ρ).bind fun ρ1 => (body ρ1 s).bind fun x => match x.1 with
    | .nx => fLoop set body r x.2.1 x.2.2
    | .ct => fLoop set body r x.2.1 x.2.2
    | .bk => some (.nx, x.2.1, x.2.2)
    | .rt v => some (.rt v, x.2.1, x.2.2)
def fFor (fi : FI) (set : D → Env → Option Env) (body : FS) : FS := fun ρ s => (fi ρ s).bind fun x => fLoop set body x.1 ρ x.2
theorem fLoop_fl {set : D → Env → Option Env} {body : FS} : ∀ {ds : List D} {ρ : Env} {s : Src} {fl : Fl} {ρ' : Env} {s' : Src}, fLoop set body ds ρ s = some (fl, ρ', s') → fl = .nx ∨ ∃ d, fl = .rt d
  | [], _, _, _, _, _, h => by cases h; exact .inl rfl
  | d :: r, ρ, s, fl, ρ', s', h => by
    unfold fLoop at h
    cases h1 : set d ρ with
    | none => rw [h1] at h; cases h
    | some ρ1 =>
      rw [h1, Option.bind_some] at h
      cases h2 : body ρ1 s with
      | none => rw [h2] at h; cases h
      | some x =>
        obtain ⟨f2, ρ2, s2⟩ := x
        rw [h2, Option.bind_some] at h
        cases f2 with
        | nx => exact fLoop_fl h
        | ct => exact fLoop_fl h
        | bk => cases h; exact .inl rfl
        | rt v => cases h; exact .inr ⟨v, rfl⟩
section
variable {X : Cx} {own : Slots} {tg iter : Expr} {body : List Stmt} {js : List Nat} {fi : FI} {set : D → Env → Option Env} {fb : FS} {pos : Pos}
theorem sd_for (hi : PID X own tg iter true fi) (hg : PGD X own tg js set) (hb : SDs X own body fb) (hp : PassesOwn (model X.prog X.w) X.A X.env X.xe := by exact PassesOwn.never) (hc : X.calm = true := by rfl)
    (hs : ∀ x, foldedSetIterable iter X.env x = pure x := by intro _; rfl) : SD X own (.For tg iter body [] pos) (fFor fi set fb) :=
  ⟨fun A hk hw => (ps_for hp hc (hi.run A hk hw) (hg.run A hk hw) (hb.run A hk hw) hs).imp fun E σ H h => by
    obtain ⟨ρ, s, fl, ρ', s', R, hf, q⟩ := of_tS h
    unfold fFor at hf
    cases h0 : fi ρ s with
    | none => rw [h0] at hf; cases hf
    | some y =>
      obtain ⟨items, s1⟩ := y
      rw [h0, Option.bind_some] at hf
      refine ⟨ρ, s, items, s1, R, h0, fun J F H1 R1 k1 sm nx nr W => ?_⟩
      have src : ∀ a o, F a = some o → ¬ A.mv a := fun a o ha z => nx a o ha z
      refine ⟨fun i m σ2 H2 => m = items.length - i ∧ i ≤ items.length ∧ ∃ ρ2 s2, Rel A ρ2 s2 σ2 H2 ∧ Fr A σ H1 σ2 H2 ∧ fLoop set fb (items.drop i) ρ2 s2 = some (fl, ρ', s'), ⟨items.length, by omega, Nat.zero_le _, ρ, s1, R1, Fr.refl _ _ _, hf⟩, ?_⟩
      rintro i m σ2 H2 ⟨rfl, hi, ρ2, s2, R2, F2, hl⟩
      have smF : Same F H2 := fun a o ha => (F2 a o (sm a o ha) (nr rfl a o ha) (src a o ha)).1
      by_cases hlt : i < items.length
      · refine .inr ⟨W.goes i H2 hlt smF, ?_⟩
        obtain ⟨di, hdi⟩ : ∃ d, items[i]? = some d := ⟨items[i], by simp [hlt]⟩
        have hdrop : items.drop i = di :: items.drop (i + 1) := by
          rw [List.drop_eq_getElem_cons hlt]
          have := List.getElem?_eq_getElem hlt
          rw [hdi] at this
          injection this with e
          rw [e]
        rw [hdrop] at hl
        unfold fLoop at hl
        cases h1 : set di ρ2 with
        | none => rw [h1] at hl; cases hl
        | some ρ3 =>
          rw [h1, Option.bind_some] at hl
          cases h2 : fb ρ3 s2 with
          | none => rw [h2] at hl; cases hl
          | some x =>
            obtain ⟨f4, ρ4, s4⟩ := x
            rw [h2, Option.bind_some] at hl
            refine ⟨fun σ' H' => ∃ ρ5 s5, Rel A ρ5 s5 σ' H' ∧ Fr A σ H1 σ' H' ∧ fLoop set fb (items.drop (i + 1)) ρ5 s5 = some (fl, ρ', s'), fun σ' H' ⟨ρ5, s5, R5, F5, l5⟩ => ⟨items.length - (i + 1), by omega, rfl, hlt, ρ5, s5, R5, F5, l5⟩, fun v H3 hy => ?_⟩
            obtain ⟨d, e1, e2⟩ := W.yields i H2 v H3 hlt smF hy
            rw [hdi] at e1
            injection e1 with e1
            subst e1
            -- the item as data of the heap as it is now
            have C2 : Same (fre A σ H1) (fre A σ2 H2) := fun a o ha => by
              obtain ⟨n1, n2⟩ := fre_no ha
              have := F2 a o (fre_same a o ha) n1 fun z => n2 (R1.mvEx z)
              exact fre_of this.1 this.2 n2
            have hv : Rel A ρ2 s2 σ2 H3 ∧ Kp A H2 H3 ∧ Den A.K (fre A σ2 H3) v di := by
              rcases e2 with ⟨rfl, d2⟩ | ⟨T, vs, ds, rfl, hT, rfl, d2, rfl, np⟩
              · exact ⟨R2, Kp.refl _ _, d2.mono C2⟩
              · exact ⟨R2.mono (same_upd hT), Kp.of (same_upd hT), den_tup R2 hT (d2.mono C2) np⟩
            obtain ⟨R3, k3, d3⟩ := hv
            refine ⟨ρ2, s2, di, ρ3, R3, d3, h1, fun σ3 R4 _ r4 => ?_⟩
            have F3 : Fr A σ H1 σ3 H3 := F2.trans (k3.fr.trans fun a o ha n z => ⟨ha, fun w => n ((r4 a).mp w)⟩)
            refine tS_of R4 h2 ?_
            cases f4 with
            | nx => exact fun σ' H' R5 F5 => ⟨ρ4, s4, R5, F3.trans F5, hl⟩
            | ct => exact fun σ' H' R5 F5 => ⟨ρ4, s4, R5, F3.trans F5, hl⟩
            | bk => cases hl; exact fun σ' H' R5 F5 => q σ' H' R5 (k1.fr.trans (F3.trans F5))
            | rt w => cases hl; exact fun v σ' H' R5 F5 hd => q v σ' H' R5 (k1.fr.trans (F3.trans F5)) hd
      · have ei : i = items.length := by omega
        subst ei
        rw [List.drop_length] at hl
        cases hl
        exact .inl ⟨W.stops H2 smF, q σ2 H2 R2 (k1.fr.trans F2)⟩⟩

/-! ### while: by a number of turns that is enough -/
def fWl (c : FT) (body : FS) : Nat → FS
  | 0, _, _ => none
  | n + 1, ρ, s => (c ρ s).bind fun x => if x.1 = true then (body ρ x.2).bind fun y => (match y.1 with
    | .nx => fWl c body n y.2.1 y.2.2
    | .ct => fWl c body n y.2.1 y.2.2
    | .bk => some (.nx, y.2.1, y.2.2)
    | .rt v => some (.rt v, y.2.1, y.2.2)) else some (.nx, ρ, x.2)
def fWhile (N : Env → Nat) (c : FT) (body : FS) : FS := fun ρ s => fWl c body (N ρ) ρ s
theorem sd_while {c : Expr} {tc : FT} (N : Env → Nat) (hcd : PTD X own c tc) (hb : SDs X own body fb) (hp : PassesOwn (model X.prog X.w) X.A X.env X.xe := by exact PassesOwn.never) : SD X own (.While c body [] pos) (fWhile N tc fb) :=
  ⟨fun A hk hw => (ps_while hp (hcd.run A hk hw) (hb.run A hk hw)).imp fun E σ H h => by
    obtain ⟨ρ, s, fl, ρ', s', R, hf, q⟩ := of_tS h
    unfold fWhile at hf
    refine ⟨fun m σ2 H2 => ∃ ρ2 s2, Rel A ρ2 s2 σ2 H2 ∧ Fr A σ H σ2 H2 ∧ fWl tc fb m ρ2 s2 = some (fl, ρ', s'), ⟨N ρ, ρ, s, R, Fr.refl _ _ _, hf⟩, ?_⟩
    rintro m σ2 H2 ⟨ρ2, s2, R2, F2, hl⟩
    cases m with
    | zero => cases hl
    | succ m =>
      unfold fWl at hl
      cases h1 : tc ρ2 s2 with
      | none => rw [h1] at hl; cases hl
      | some x =>
        obtain ⟨b, s3⟩ := x
        rw [h1, Option.bind_some] at hl
        refine ⟨ρ2, s2, b, s3, R2, h1, fun H3 R3 k3 => ?_⟩
        cases b with
        | false =>
          rw [if_neg Bool.false_ne_true] at hl ⊢
          cases hl
          exact q σ2 H3 R3 (F2.trans k3.fr)
        | true =>
          rw [if_pos rfl] at hl ⊢
          cases h2 : fb ρ2 s3 with
          | none => rw [h2] at hl; cases hl
          | some y =>
            obtain ⟨f4, ρ4, s4⟩ := y
            rw [h2, Option.bind_some] at hl
            have F3 := F2.trans k3.fr
            refine ⟨fun σ' H' => ∃ ρ5 s5, Rel A ρ5 s5 σ' H' ∧ Fr A σ H σ' H' ∧ fWl tc fb m ρ5 s5 = some (fl, ρ', s'), fun σ' H' h => ⟨m, Nat.lt_succ_self m, h⟩, tS_of R3 h2 ?_⟩
            cases f4 with
            | nx => exact fun σ' H' R5 F5 => ⟨ρ4, s4, R5, F3.trans F5, hl⟩
            | ct => exact fun σ' H' R5 F5 => ⟨ρ4, s4, R5, F3.trans F5, hl⟩
            | bk => cases hl; exact fun σ' H' R5 F5 => q σ' H' R5 (F3.trans F5)
            | rt w => cases hl; exact fun v σ' H' R5 F5 hd => q v σ' H' R5 (F3.trans F5) hd⟩
end

/-! ### comprehensions -/
def wipeE (ρ : Env) : List Nat → Env
  | [] => ρ
  | v :: vs => (wipeE ρ vs).set v none
def lcLoop (set : D → Env → Option Env) (t : FT) (fe : FE) (ρ : Env) : List D → Src → Option (List D × Src)
  | [], s => some ([], s)
  | d :: r, s => (set d ρ).bind fun ρ1 => (t ρ1 s).bind fun x => if x.1 = true then (fe ρ1 x.2).bind fun y => (lcLoop set t fe ρ r y.2).map fun z => (y.1 :: z.1, z.2) else lcLoop set t fe ρ r x.2
def fLc (fi : FI) (set : D → Env → Option Env) (t : FT) (fe : FE) (vs : List Nat) : FE := fun ρ s => (fi ρ s).bind fun x => if x.1.length ≤ 1000000 then (lcLoop set t fe (wipeE ρ vs) x.1 x.2).map fun y => (.list y.1, y.2) else none
theorem lcLoop_len {set : D → Env → Option Env} {t : FT} {fe : FE} {ρ : Env} : ∀ {ds : List D} {s : Src} {es : List D} {s' : Src}, lcLoop set t fe ρ ds s = some (es, s') → es.length ≤ ds.length
  | [], _, _, _, h => by cases h; exact Nat.le_refl _
  | d :: r, s, es, s', h => by
    unfold lcLoop at h
    cases h1 : set d ρ with
    | none => rw [h1] at h; cases h
    | some ρ1 =>
      rw [h1, Option.bind_some] at h
      cases h2 : t ρ1 s with
      | none => rw [h2] at h; cases h
      | some x =>
        rw [h2, Option.bind_some] at h
        split at h
        · cases h3 : fe ρ1 x.2 with
          | none => rw [h3] at h; cases h
          | some y =>
            rw [h3, Option.bind_some] at h
            cases h4 : lcLoop set t fe ρ r y.2 with
            | none => rw [h4] at h; cases h
            | some z =>
              rw [h4] at h
              cases h
              have := lcLoop_len h4
              rw [List.length_cons, List.length_cons]
              omega
        · have := lcLoop_len h
          rw [List.length_cons]
          omega
section
variable {A : Act} {ρ : Env} {s : Src} {σ : L2.St} {H : Hp}
theorem Rel.wipe (R : Rel A ρ s σ H) : ∀ {vs : List Nat}, (∀ v ∈ vs, v ∉ A.own ∧ v ∉ A.fix.map (·.1)) → Rel A (wipeE ρ vs) s (L2.wipe σ vs) H ∧ ∀ a, IsRoot A (L2.wipe σ vs) a ↔ IsRoot A σ a
  | [], _ => ⟨R, fun _ => Iff.rfl⟩
  | v :: vs, h => by
    obtain ⟨R1, i1⟩ := Rel.wipe R (vs := vs) fun w hw => h w (List.mem_cons_of_mem _ hw)
    obtain ⟨n1, n2⟩ := h v List.mem_cons_self
    exact ⟨R1.set n1 n2 (fun d e => by cases e), fun a => (root_set n1 none a).trans (i1 a)⟩
theorem wipe_get (σ : L2.St) : ∀ (vs : List Nat) (i : Nat), (L2.wipe σ vs)[i]? = if i ∈ vs then (if i < σ.length then some none else none) else σ[i]?
  | [], i => by rw [if_neg (by simp)]; rfl
  | v :: vs, i => by
    show ((L2.wipe σ vs).set v none)[i]? = _
    by_cases e : v = i
    · subst e
      rw [if_pos List.mem_cons_self]
      by_cases hl : v < σ.length
      · rw [if_pos hl, List.getElem?_set_self (by rw [wipe_length]; exact hl)]
      · rw [if_neg hl, List.getElem?_eq_none (by rw [List.length_set, wipe_length]; omega)]
    · rw [List.getElem?_set_ne e, wipe_get σ vs i]
      by_cases h : i ∈ vs
      · rw [if_pos h, if_pos (List.mem_cons_of_mem _ h)]
      · rw [if_neg h, if_neg (fun z => (List.mem_cons.mp z).elim (fun z => e z.symm) h)]
theorem wipe_only {σ σ2 : L2.St} {vs js : List Nat} (o : Only js (L2.wipe σ vs) σ2) (h : ∀ j ∈ js, j ∈ vs) : L2.wipe σ2 vs = L2.wipe σ vs := by
  apply List.ext_getElem?
  intro i
  rw [wipe_get, wipe_get]
  have hl : σ2.length = σ.length := by rw [o.1, wipe_length]
  by_cases hi : i ∈ vs
  · rw [if_pos hi, if_pos hi, hl]
  · rw [if_neg hi, if_neg hi, o.2 i fun z => hi (h i z), wipe_get, if_neg hi]
/-- one object taken away -/
def del (H : Hp) (p : Addr) : Hp := fun a => if a = p then none else H a
theorem del_same {H : Hp} {p : Addr} : del H p p = none := by unfold del; rw [if_pos rfl]
theorem del_ne {H : Hp} {p a : Addr} (h : a ≠ p) : del H p a = H a := by unfold del; rw [if_neg h]
theorem upd_del {H : Hp} {p : Addr} {o : HO} (h : H p = some o) : upd (del H p) p o = H := by
  funext a
  by_cases e : a = p
  · rw [e, upd_same, h]
  · rw [upd_ne e, del_ne e]
theorem Rel.pull {p : Addr} (R : Rel (A.add [p]) ρ s σ H) (nx : ¬ A.ex p) (n0 : A.H0 p = none) : Rel A ρ s σ (del H p) ∧ Same (fre (A.add [p]) σ H) (fre A σ (del H p)) := by
  have sm : Same (fre (A.add [p]) σ H) (fre A σ (del H p)) := fun a o h => by
    obtain ⟨m1, m2⟩ := fre_no h
    have ne : a ≠ p := fun e => m2 (.inr (by rw [e]; exact List.mem_singleton.mpr rfl))
    exact fre_of (by rw [del_ne ne]; exact fre_same a o h) m1 fun z => m2 (.inl z)
  refine ⟨⟨R.len, R.nl, fun a o h n => ?_, fun q h => ?_, fun a h => ?_, R.fix, fun j e h n => ?_, fun j e h n => ?_, fun j q n h => ?_, R.inj, fun q h => ?_⟩, sm⟩
  · have ne : a ≠ p := fun e => by rw [e, n0] at h; cases h
    rw [del_ne ne]; exact R.keep a o h n
  · obtain ⟨a1, a2, a3⟩ := R.src q h
    have ne : q ≠ p := fun e => a2 (by rw [e]; exact n0)
    refine ⟨by rw [del_ne ne]; exact a1, a2, ?_⟩
    rcases a3 with a3 | a3
    · exact a3
    · exact absurd (List.mem_singleton.mp a3) ne
  · have ne : a ≠ p := fun e => nx (by rw [← e]; exact h)
    rw [del_ne ne]; exact R.exin a (.inl h)
  · obtain ⟨v, h1, h2⟩ := R.val j e h n
    exact ⟨v, h1, h2.mono sm⟩
  · obtain ⟨q, o, h1, h2, h3⟩ := R.ownv j e h n
    have ne : q ≠ p := fun e => (R.root j q n h1).2.1 (.inr (by rw [e]; exact List.mem_singleton.mpr rfl))
    exact ⟨q, o, h1, by rw [del_ne ne]; exact h2, h3.mono sm⟩
  · obtain ⟨a1, a2, o, a3⟩ := R.root j q n h
    have ne : q ≠ p := fun e => a2 (.inr (by rw [e]; exact List.mem_singleton.mpr rfl))
    exact ⟨a1, fun z => a2 (.inl z), o, by rw [del_ne ne]; exact a3⟩
  · obtain ⟨t, u1, u2⟩ := R.tabs q h
    have ne : q ≠ p := fun e => u1 (by rw [e]; exact n0)
    exact ⟨t.keep fun o e => by rw [del_ne ne]; exact e, u1, u2.elim id fun z => absurd (List.mem_singleton.mp z) ne⟩
end
structure PTsD (X : Cx) (own : Slots) (ifs : List Expr) (f : FT) : Prop where
  run : ∀ A : Act, A.At X → A.Of own → PTs X ifs (tT A f)
theorem _root_.L2.PTs.imp {X : Cx} {e : List Expr} {t t' : TT} (h : PTs X e t) (q : ∀ σ H Q, t' σ H Q → t σ H Q) : PTs X e t' := ⟨fun pins s σ H Q I hw => h.run pins s σ H Q I (q σ H Q hw)⟩
def fYes : FT := fun _ s => some (true, s)
section
variable {X : Cx} {own : Slots} {tg iter elt : Expr} {ifs : List Expr} {js : List Nat} {fi : FI} {set : D → Env → Option Env} {fe : FE} {t : FT} {pos : Pos} {scope : Scope} {cv : List (Str × Nat)} {b : Bool}
theorem ptsd_nil : PTsD X own [] fYes := ⟨fun A hk hw => pts_nil.imp fun σ H Q ⟨ρ, s, d, s', R, hf, q⟩ => by cases hf; exact q H R (Kp.refl _ _)⟩
theorem ptsd_one {c : Expr} (h : PTD X own c t) : PTsD X own [c] t := ⟨fun A hk hw => pts_one (h.run A hk hw)⟩
def cvOk (W : Slots) (vs js : List Nat) : Bool := (vs.all fun v => !W.own.contains v && !W.fx.contains v) && js.all fun j => vs.contains j
theorem lc_imp (A : Act) (hk : A.At X) (hw : A.Of own) (P : L2.St → Hp → Prop) (hv : cvOk own (cv.map (·.2)) js = true) (σ : L2.St) (H : Hp) (Q : VK) (h : P σ H ∧ tF A (fLc fi set t fe (cv.map (·.2))) σ H Q) :
    tLc (fun σ H R => P σ H ∧ tI A b fi σ H R) (fun v σ H Q => ∃ B : Act, B.At X ∧ B.Of own ∧ tG B js set v σ H Q) (fun σ H Q => ∃ B : Act, B.At X ∧ B.Of own ∧ tT B t σ H Q) (fun σ H Q => ∃ B : Act, B.At X ∧ B.Of own ∧ tE B fe σ H Q) (cv.map (·.2)) σ H Q := by
  obtain ⟨hP, ρ, s, d, s', R, hf, q⟩ := h
  unfold fLc at hf
  cases h0 : fi ρ s with
  | none => rw [h0] at hf; cases hf
  | some y =>
    obtain ⟨items, s1⟩ := y
    rw [h0, Option.bind_some] at hf
    split at hf
    case isFalse => cases hf
    rename_i hsz
    cases h00 : lcLoop set t fe (wipeE ρ (cv.map (·.2))) items s1 with
    | none => rw [h00] at hf; cases hf
    | some yy =>
    obtain ⟨es, s9⟩ := yy
    rw [h00] at hf
    cases hf
    refine ⟨hP, ρ, s, items, s1, R, h0, fun J F H1 R1 k1 sm nx nr W D hD => ?_⟩
    obtain ⟨nD1, nD2, nD3⟩ := R1.new hD
    have vs_ok : ∀ v ∈ cv.map (·.2), v ∉ A.own ∧ v ∉ A.fix.map (·.1) := fun v h => by
      unfold cvOk at hv
      simp only [Bool.and_eq_true, List.all_eq_true, Bool.not_eq_true'] at hv
      exact ⟨hw.nown (hv.1 v h).1, hw.nfix (hv.1 v h).2⟩
    have js_ok : ∀ j ∈ js, j ∈ cv.map (·.2) := fun j h => by
      unfold cvOk at hv
      simp only [Bool.and_eq_true, List.all_eq_true] at hv
      simpa using hv.2 j h
    obtain ⟨Rp, smp⟩ := R1.push (o := .lst []) hD
    have FD : ∀ a o, F a = some o → a ≠ D := fun a o h e => by
      have := sm a o h
      rw [e, hD] at this; cases this
    refine ⟨fun i m H2 => m = items.length - i ∧ i ≤ items.length ∧ ∃ s2 acc ds rest, Rel (A.add [D]) ρ s2 σ H2 ∧ (∀ a o, H1 a = some o → ¬ A.mv a → H2 a = some o) ∧ H2 D = some (.lst acc) ∧ acc.length ≤ i ∧ DenAll A.K (fre (A.add [D]) σ H2) acc ds ∧
      lcLoop set t fe (wipeE ρ (cv.map (·.2))) (items.drop i) s2 = some (rest, s9) ∧ ds ++ rest = es, ⟨items.length, by omega, Nat.zero_le _, s1, [], [], es, Rp, fun a o h n => same_upd hD a o h, upd_same, Nat.le_refl _, .nil, h00, rfl⟩, ?_⟩
    rintro i m H2 ⟨rfl, hi, s2, acc, ds, rest, R2, k2, hD2, hal, dal, hl, hds⟩
    have smF : Same F H2 := fun a o ha => k2 a o (sm a o ha) fun z => nx a o ha z
    by_cases hlt : i < items.length
    · refine .inr ⟨W.goes i H2 hlt smF, ?_⟩
      obtain ⟨di, hdi⟩ : ∃ d, items[i]? = some d := ⟨items[i], by simp [hlt]⟩
      have hdrop : items.drop i = di :: items.drop (i + 1) := by
        rw [List.drop_eq_getElem_cons hlt]
        have := List.getElem?_eq_getElem hlt
        rw [hdi] at this
        injection this with e
        rw [e]
      rw [hdrop] at hl
      unfold lcLoop at hl
      cases h1 : set di (wipeE ρ (cv.map (·.2))) with
      | none => rw [h1] at hl; cases hl
      | some ρ3 =>
        rw [h1, Option.bind_some] at hl
        cases h2 : t ρ3 s2 with
        | none => rw [h2] at hl; cases hl
        | some x =>
          obtain ⟨bb, s3⟩ := x
          rw [h2, Option.bind_some] at hl
          refine ⟨fun H' => ∃ s2 acc ds rest, Rel (A.add [D]) ρ s2 σ H' ∧ (∀ a o, H1 a = some o → ¬ A.mv a → H' a = some o) ∧ H' D = some (.lst acc) ∧ acc.length ≤ i + 1 ∧ DenAll A.K (fre (A.add [D]) σ H') acc ds ∧
            lcLoop set t fe (wipeE ρ (cv.map (·.2))) (items.drop (i + 1)) s2 = some (rest, s9) ∧ ds ++ rest = es, fun H' h => ⟨items.length - (i + 1), by omega, rfl, hlt, h⟩, fun v H3 hy => ?_⟩
          obtain ⟨d, e1, e2⟩ := W.yields i H2 v H3 hlt smF hy
          rw [hdi] at e1
          injection e1 with e1
          subst e1
          have C2 : Same (fre A σ H1) (fre (A.add [D]) σ H2) := fun a o ha => by
            obtain ⟨n1, n2⟩ := fre_no ha
            have h1a := fre_same a o ha
            refine fre_of (k2 a o h1a fun z => n2 (R1.mvEx z)) n1 fun z => z.elim n2 fun z => ?_
            rw [List.mem_singleton.mp z, hD] at h1a; cases h1a
          have hvv : Rel (A.add [D]) ρ s2 σ H3 ∧ Same H2 H3 ∧ Den A.K (fre (A.add [D]) σ H3) v di := by
            rcases e2 with ⟨rfl, d2⟩ | ⟨T, vs, ds', rfl, hT, rfl, d2, rfl, np⟩
            · exact ⟨R2, Same.refl _, d2.mono C2⟩
            · exact ⟨R2.mono (same_upd hT), same_upd hT, den_tup (A := A.add [D]) R2 hT (d2.mono C2) np⟩
          obtain ⟨R3, sm3, d3⟩ := hvv
          obtain ⟨Rw, iw⟩ := Rel.wipe R3 (vs := cv.map (·.2)) vs_ok
          refine ⟨A.add [D], hk, Act.add_of hw _, wipeE ρ (cv.map (·.2)), s2, di, ρ3, Rw, by rw [fre_iff iw]; exact d3, h1, fun σ3 R4 o4 i4 => ⟨wipe_only o4 js_ok, A.add [D], hk, Act.add_of hw _, ρ3, s2, bb, s3, R4, h2, fun H5 R5 k5 => ?_⟩⟩
          -- back to the slots of the def
          have back : ∀ {s6 : Src} {H6 : Hp}, Rel (A.add [D]) ρ3 s6 σ3 H6 → Kp (A.add [D]) H3 H6 → Rel (A.add [D]) ρ s6 σ H6 := fun {s6 H6} R6 k6 =>
            { len := R3.len, nl := R3.nl, keep := R6.keep, src := R6.src, exin := R6.exin, fix := R3.fix
              val := fun j e h n => let ⟨w, q1, q2⟩ := R3.val j e h n; ⟨w, q1, q2.mono (R3.sm k6)⟩
              ownv := fun j e h n => by
                obtain ⟨p, o, q1, q2, q3⟩ := R3.ownv j e h n
                refine ⟨p, o, q1, k6 p o q2 fun z => (R3.root j p n q1).2.1 (R3.mvEx z), q3.mono (R3.sm k6)⟩
              root := fun j p n h => by
                obtain ⟨q1, q2, o, q3⟩ := R3.root j p n h
                exact ⟨q1, q2, o, k6 p o q3 fun z => q2 (R3.mvEx z)⟩
              inj := R3.inj
              tabs := R6.tabs }
          have ns : ¬ (A.add [D]).mv D := fun z => by
            obtain ⟨_, this⟩ := R1.mvAt z
            rw [hD] at this; cases this
          cases bb with
          | false =>
            rw [if_neg Bool.false_ne_true] at hl
            show ∃ s2 acc ds rest, _
            refine ⟨s3, acc, ds, rest, back R5 k5, fun a o h n => k5 a o (sm3 a o (k2 a o h n)) n, k5 D _ (sm3 D _ hD2) ns, Nat.le_succ_of_le hal, dal.mono (fun a o h => ?_), hl, hds⟩
            obtain ⟨n1, n2⟩ := fre_no h
            exact fre_of (k5 a o (sm3 a o (fre_same a o h)) fun z => n2 (R2.mvEx z)) n1 n2
          | true =>
            rw [if_pos rfl] at hl
            show (∃ B : Act, B.At X ∧ B.Of own ∧ tE B fe σ3 H5 _)
            cases h3 : fe ρ3 s3 with
            | none => rw [h3] at hl; cases hl
            | some y =>
              obtain ⟨ye, s6⟩ := y
              rw [h3, Option.bind_some] at hl
              cases h4 : lcLoop set t fe (wipeE ρ (cv.map (·.2))) (items.drop (i + 1)) s6 with
              | none => rw [h4] at hl; cases hl
              | some z =>
                rw [h4] at hl
                cases hl
                refine ⟨A.add [D], hk, Act.add_of hw _, ρ3, s3, ye, s6, R5, h3, fun u H6 R6 k6 d6 => ?_⟩
                have kk := k5.trans k6
                have hD6 : H6 D = some (.lst acc) := kk D _ (sm3 D _ hD2) ns
                have Rb := back R6 kk
                refine ⟨acc, hD6, Nat.lt_of_le_of_lt hal (Nat.lt_of_lt_of_le hlt (Nat.le_trans hsz (by decide))), ?_⟩
                -- the list has one more
                have smD : Same (fre (A.add [D]) σ H6) (fre (A.add [D]) σ (upd H6 D (.lst (acc ++ [u])))) := fun a o h => by
                  obtain ⟨n1, n2⟩ := fre_no h
                  have ne : a ≠ D := fun e => n2 (.inr (by rw [e]; exact List.mem_singleton.mpr rfl))
                  exact fre_of (by rw [upd_ne ne]; exact fre_same a o h) n1 n2
                have Ru : Rel (A.add [D]) ρ s6 σ (upd H6 D (.lst (acc ++ [u]))) :=
                  { len := Rb.len, nl := Rb.nl
                    keep := fun a o h n => by
                      have ne : a ≠ D := fun e => by rw [e, show (A.add [D]).H0 D = none from nD3] at h; cases h
                      rw [upd_ne ne]; exact Rb.keep a o h n
                    src := fun p h => by
                      obtain ⟨q1, q2, q3⟩ := Rb.src p h
                      have ne : p ≠ D := fun e => ns (by rw [← e]; exact .inl h)
                      exact ⟨by rw [upd_ne ne]; exact q1, q2, q3⟩
                    exin := fun a h => by
                      by_cases e : a = D
                      · exact ⟨_, by rw [e, upd_same]⟩
                      · rw [upd_ne e]; exact Rb.exin a h
                    fix := Rb.fix
                    val := fun j e h n => let ⟨w, q1, q2⟩ := Rb.val j e h n; ⟨w, q1, q2.mono smD⟩
                    ownv := fun j e h n => by
                      obtain ⟨p, o, q1, q2, q3⟩ := Rb.ownv j e h n
                      have ne : p ≠ D := fun e => (Rb.root j p n q1).2.1 (.inr (by rw [e]; exact List.mem_singleton.mpr rfl))
                      exact ⟨p, o, q1, by rw [upd_ne ne]; exact q2, q3.mono smD⟩
                    root := fun j p n h => by
                      obtain ⟨q1, q2, o, q3⟩ := Rb.root j p n h
                      have ne : p ≠ D := fun e => q2 (.inr (by rw [e]; exact List.mem_singleton.mpr rfl))
                      exact ⟨q1, q2, o, by rw [upd_ne ne]; exact q3⟩
                    inj := Rb.inj
                    tabs := fun q h => by
                      obtain ⟨t, u1, u2⟩ := Rb.tabs q h
                      have ne : q ≠ D := fun e => u1 (by rw [e]; exact nD3)
                      exact ⟨t.keep fun o e => by rw [upd_ne ne]; exact e, u1, u2⟩ }
                have r4 : fre (A.add [D]) σ3 H6 = fre (A.add [D]) σ H6 := fre_iff fun a => (i4 a).trans (iw a)
                refine ⟨s6, acc ++ [u], ds ++ [ye], z.1, Ru, fun a o h n => ?_, upd_same, by rw [List.length_append, List.length_singleton]; omega, ?_, h4, by rw [List.append_assoc]; exact hds⟩
                · have ne : a ≠ D := fun e => by rw [e, hD] at h; cases h
                  rw [upd_ne ne]
                  exact kk a o (sm3 a o (k2 a o h n)) n
                · have dacc : DenAll A.K (fre (A.add [D]) σ H6) acc ds := dal.mono fun a o h => by
                    obtain ⟨n1, n2⟩ := fre_no h
                    exact fre_of (kk a o (sm3 a o (fre_same a o h)) fun z => n2 (R2.mvEx z)) n1 n2
                  rw [r4] at d6
                  exact (dacc.append (.cons d6 .nil)).mono smD
    · have ei : i = items.length := by omega
      subst ei
      rw [List.drop_length] at hl
      cases hl
      rw [List.append_nil] at hds
      subst hds
      obtain ⟨Rq, smq⟩ := R2.pull nD2 nD3
      refine .inl ⟨W.stops H2 smF, ?_⟩
      have := q D (del H2 D) (.lst acc) Rq (k1.trans fun a o h n => by
        have ne : a ≠ D := fun e => by rw [e, hD] at h; cases h
        rw [del_ne ne]; exact k2 a o h n) del_same ⟨acc, rfl, dal.mono smq⟩
      rw [upd_del hD2] at this
      exact this
theorem lc_run (A : Act) (hk : A.At X) (hw : A.Of own) (P : L2.St → Hp → Prop) (hi : PI X tg iter fun σ H R => P σ H ∧ tI A b fi σ H R) (ok : BlkOk X.N X.env.scope scope cv)
    (hg : ∀ (s : Shared) (H : Hp) (C : Addr) (cl : List (Str × Addr)) (fp : List Addr), PGD (X.blk s H scope (compEnvC scope cl C X.env) fp) own tg js set)
    (ht : ∀ (s : Shared) (H : Hp) (C : Addr) (cl : List (Str × Addr)) (fp : List Addr), PTsD (X.blk s H scope (compEnvC scope cl C X.env) fp) own ifs t)
    (he : ∀ (s : Shared) (H : Hp) (C : Addr) (cl : List (Str × Addr)) (fp : List Addr), PD (X.blk s H scope (compEnvC scope cl C X.env) fp) own elt fe)
    (hv : cvOk own (cv.map (·.2)) js = true) (hc : X.calm = true) (hN : X.N.Nodup) (hs : ∀ x, foldedSetIterable iter X.env x = pure x) :
    PE X (.ListComp elt [⟨tg, iter, ifs, 0⟩] scope pos) fun σ H Q => P σ H ∧ tF A (fLc fi set t fe (cv.map (·.2))) σ H Q := by
  let tx : (Act → TE) → TE := fun k σ H Q => ∃ B : Act, B.At X ∧ B.Of own ∧ k B σ H Q
  have hg' : ∀ (s : Shared) (H : Hp) (C : Addr) (cl : List (Str × Addr)) (fp : List Addr), PG (X.blk s H scope (compEnvC scope cl C X.env) fp) tg (fun v σ H Q => ∃ B : Act, B.At X ∧ B.Of own ∧ tG B js set v σ H Q) :=
    fun s H C cl fp => ⟨fun pins s' σ H' v u Q I r ⟨B, b1, b2, q⟩ => ((hg s H C cl fp).run B b1 b2).run pins s' σ H' v u Q I r q⟩
  have ht' : ∀ (s : Shared) (H : Hp) (C : Addr) (cl : List (Str × Addr)) (fp : List Addr), PTs (X.blk s H scope (compEnvC scope cl C X.env) fp) ifs (fun σ H Q => ∃ B : Act, B.At X ∧ B.Of own ∧ tT B t σ H Q) :=
    fun s H C cl fp => ⟨fun pins s' σ H' Q I ⟨B, b1, b2, q⟩ => ((ht s H C cl fp).run B b1 b2).run pins s' σ H' Q I q⟩
  have he' : ∀ (s : Shared) (H : Hp) (C : Addr) (cl : List (Str × Addr)) (fp : List Addr), PE (X.blk s H scope (compEnvC scope cl C X.env) fp) elt (fun σ H Q => ∃ B : Act, B.At X ∧ B.Of own ∧ tE B fe σ H Q) :=
    fun s H C cl fp => ⟨fun pins s' σ H' Q I ⟨B, b1, b2, q⟩ => ((he s H C cl fp).run B b1 b2).run pins s' σ H' Q I q⟩
  exact (pe_lc hc hN hi ok hg' ht' he' hs).imp fun σ H Q h => lc_imp A hk hw P hv σ H Q h
theorem pf_lc (hi : PID X own tg iter b fi) (ok : BlkOk X.N X.env.scope scope cv)
    (hg : ∀ (s : Shared) (H : Hp) (C : Addr) (cl : List (Str × Addr)) (fp : List Addr), PGD (X.blk s H scope (compEnvC scope cl C X.env) fp) own tg js set)
    (ht : ∀ (s : Shared) (H : Hp) (C : Addr) (cl : List (Str × Addr)) (fp : List Addr), PTsD (X.blk s H scope (compEnvC scope cl C X.env) fp) own ifs t)
    (he : ∀ (s : Shared) (H : Hp) (C : Addr) (cl : List (Str × Addr)) (fp : List Addr), PD (X.blk s H scope (compEnvC scope cl C X.env) fp) own elt fe)
    (hv : cvOk own (cv.map (·.2)) js = true := by decide) (hc : X.calm = true := by rfl) (hN : X.N.Nodup := by assumption) (hs : ∀ x, foldedSetIterable iter X.env x = pure x := by intro _; rfl) :
    PF X own (.ListComp elt [⟨tg, iter, ifs, 0⟩] scope pos) (fLc fi set t fe (cv.map (·.2))) :=
  ⟨fun A hk hw => (lc_run A hk hw (fun _ _ => True) ((hi.run A hk hw).imp fun _ _ _ h => h.2) ok hg ht he hv hc hN hs).imp fun _ _ _ h => ⟨trivial, h⟩⟩
/-- name = [..] on one line, the name an own slot; P: what else is known -/
theorem slc_run (A : Act) (hk : A.At X) (hw : A.Of own) (P : L2.St → Hp → Prop) {y : Str} {py spos : Pos} (i : Nat) (hy : X.N[i]? = some y) (hyl : X.env.scope.names.lookup y = some .local) (hsw : swapsWith (.ListComp elt [⟨tg, iter, ifs, 0⟩] scope pos) (some (.Name y py)) spos.line X.env = pure true)
    (hi : PI X tg iter fun σ H R => P σ H ∧ tI A b fi σ H R) (ok : BlkOk X.N X.env.scope scope cv)
    (hg : ∀ (s : Shared) (H : Hp) (C : Addr) (cl : List (Str × Addr)) (fp : List Addr), PGD (X.blk s H scope (compEnvC scope cl C X.env) fp) own tg js set)
    (ht : ∀ (s : Shared) (H : Hp) (C : Addr) (cl : List (Str × Addr)) (fp : List Addr), PTsD (X.blk s H scope (compEnvC scope cl C X.env) fp) own ifs t)
    (he : ∀ (s : Shared) (H : Hp) (C : Addr) (cl : List (Str × Addr)) (fp : List Addr), PD (X.blk s H scope (compEnvC scope cl C X.env) fp) own elt fe)
    (hv : cvOk own (cv.map (·.2)) js = true) (hc : X.calm = true) (hN : X.N.Nodup) (hs : ∀ x, foldedSetIterable iter X.env x = pure x) :
    PS X (.Assign [.Name y py] (.ListComp elt [⟨tg, iter, ifs, 0⟩] scope pos) spos) fun E σ H => P σ H ∧ tF A (fLc fi set t fe (cv.map (·.2))) σ H fun v H1 => gName i v σ H1 E.nx := by
  have hg' : ∀ (s : Shared) (H : Hp) (C : Addr) (cl : List (Str × Addr)) (fp : List Addr), PG (X.blk s H scope (compEnvC scope cl C X.env) fp) tg (fun v σ H Q => ∃ B : Act, B.At X ∧ B.Of own ∧ tG B js set v σ H Q) :=
    fun s H C cl fp => ⟨fun pins s' σ H' v u Q I r ⟨B, b1, b2, q⟩ => ((hg s H C cl fp).run B b1 b2).run pins s' σ H' v u Q I r q⟩
  have ht' : ∀ (s : Shared) (H : Hp) (C : Addr) (cl : List (Str × Addr)) (fp : List Addr), PTs (X.blk s H scope (compEnvC scope cl C X.env) fp) ifs (fun σ H Q => ∃ B : Act, B.At X ∧ B.Of own ∧ tT B t σ H Q) :=
    fun s H C cl fp => ⟨fun pins s' σ H' Q I ⟨B, b1, b2, q⟩ => ((ht s H C cl fp).run B b1 b2).run pins s' σ H' Q I q⟩
  have he' : ∀ (s : Shared) (H : Hp) (C : Addr) (cl : List (Str × Addr)) (fp : List Addr), PE (X.blk s H scope (compEnvC scope cl C X.env) fp) elt (fun σ H Q => ∃ B : Act, B.At X ∧ B.Of own ∧ tE B fe σ H Q) :=
    fun s H C cl fp => ⟨fun pins s' σ H' Q I ⟨B, b1, b2, q⟩ => ((he s H C cl fp).run B b1 b2).run pins s' σ H' Q I q⟩
  exact (ps_setLc hc hN hy hyl hsw hi ok hg' ht' he' hs).imp fun E σ H h => lc_imp A hk hw P hv σ H _ h
theorem sd_setLc {y : Str} {py spos : Pos} (i : Nat) (hi : PID X own tg iter b fi) (ok : BlkOk X.N X.env.scope scope cv)
    (hg : ∀ (s : Shared) (H : Hp) (C : Addr) (cl : List (Str × Addr)) (fp : List Addr), PGD (X.blk s H scope (compEnvC scope cl C X.env) fp) own tg js set)
    (ht : ∀ (s : Shared) (H : Hp) (C : Addr) (cl : List (Str × Addr)) (fp : List Addr), PTsD (X.blk s H scope (compEnvC scope cl C X.env) fp) own ifs t)
    (he : ∀ (s : Shared) (H : Hp) (C : Addr) (cl : List (Str × Addr)) (fp : List Addr), PD (X.blk s H scope (compEnvC scope cl C X.env) fp) own elt fe)
    (hlen : i < own.n) (hw1 : own.own.contains i = true := by rfl) (hy : X.N[i]? = some y := by rfl) (hyl : X.env.scope.names.lookup y = some .local := by rfl)
    (hsw : swapsWith (.ListComp elt [⟨tg, iter, ifs, 0⟩] scope pos) (some (.Name y py)) spos.line X.env = pure true := by exact sw_true rfl rfl rfl rfl)
    (hv : cvOk own (cv.map (·.2)) js = true := by decide) (hc : X.calm = true := by rfl) (hN : X.N.Nodup := by assumption) (hs : ∀ x, foldedSetIterable iter X.env x = pure x := by intro _; rfl) :
    SD X own (.Assign [.Name y py] (.ListComp elt [⟨tg, iter, ifs, 0⟩] scope pos) spos) (fSet i (fLc fi set t fe (cv.map (·.2)))) :=
  ⟨fun A hk hw => (slc_run A hk hw (fun _ _ => True) i hy hyl hsw ((hi.run A hk hw).imp fun _ _ _ h => h.2) ok hg ht he hv hc hN hs).imp fun E σ H ⟨ρ, s, fl, ρ', s', R, hf, q⟩ => by
    unfold fSet at hf
    cases h0 : fLc fi set t fe (cv.map (·.2)) ρ s with
    | none => rw [h0] at hf; cases hf
    | some y =>
      rw [h0] at hf
      cases hf
      refine ⟨trivial, ρ, s, y.1, y.2, R, h0, fun p H1 o R1 k1 hp ho => ?_⟩
      obtain ⟨R2, F2⟩ := R1.setOwn (hw.isown hw1) hp ho (by rw [R1.nl, hw.n]; exact hlen)
      exact q _ _ R2 (k1.fr.trans F2)⟩
end
end DL
/-! Calls of the text's own defs, by what they do to data. -/
namespace DL
open PySem PySem.Spec PyProof.Rows L2 GX

abbrev GFun := List D → Src → Option (D × Src)
def pure1 (g : List D → Option D) : GFun := fun ds s => (g ds).map (·, s)
/-- the written arguments: behind the source (b), or all of them -/
def HdV (b : Bool) (src : Option Addr) (vs ws : List V) (F H : Hp) (s : Src) : Prop :=
  if b = true then ∃ p, src = some p ∧ vs = .ref p :: ws ∧ H p = some (.lst (srcV s)) ∧ F p = none else src = none ∧ vs = ws
/-- a def's promise: at data that lie in F it gives G's data; all that was stays as it was, but for the source -/
def spU (K : PySem.W.Frag) (T : Addr → Prop) (b : Bool) (n : Nat) (G : GFun) : Sp := fun vs H Q _ => ∃ (src : Option Addr) (ws : List V) (F : Hp) (ds : List D) (s : Src) (d : D) (s' : Src), vs.length = n ∧ HdV b src vs ws F H s ∧ Same F H ∧ DenAll K F ws ds ∧ G ds s = some (d, s') ∧ (∀ p, T p → TabG H p ∧ F p = none) ∧
  ∀ v H' F', (∀ p, src = some p → H' p = some (.lst (srcV s'))) → (∀ a o, H a = some o → ¬ (src = some a ∨ T a) → H' a = some o) → (∀ p, T p → TabG H' p) → Same F F' → Same F' H' → (∀ a, H a ≠ none → F a = none → F' a = none) → Den K F' v d → Q v H'
/-- what a body does, as a function of data -/
def fnOut (x : Fl × Env × Src) : Option (D × Src) := match x.1 with
  | .rt d => some (d, x.2.2)
  | .nx => some (.none, x.2.2)
  | _ => none
def fFn (b : Bool) (n : Nat) (g : FS) : GFun := fun ds s => (g ((if b = true then [none] else []) ++ ds.map some ++ List.replicate (n - (ds.length + if b = true then 1 else 0)) none) s).bind fnOut
theorem DenAll.mem {K : PySem.W.Frag} {H : Hp} {vs : List V} {ds : List D} (h : DenAll K H vs ds) : vs.length = ds.length := h.length
section
variable {P : Program} {w : World} {K : PySem.W.Frag} {mg : Str → Option Value} {base : Heap} {k : Nat} {f : Addr} {x qual : Str} {st : Stmt} {fd : FuncData} {N ps : List Str} {g : FS}
/-- the slots of a def with b: own ones lie behind the parameters -/
def slots0 (b : Bool) (n : Nat) (own : List Nat) (T : Addr → Prop) : Slots := { own := own, fx := if b = true then [0] else [], n := n, sl := if b = true then some 0 else none, tb := T }
def ownOk (np n : Nat) (own : List Nat) : Bool := own.all fun i => decide (np ≤ i) && decide (i < n)
theorem start_get {vs : List V} {N : List Str} {i : Nat} {v : V} (h : (L2.start N vs)[i]? = some (some v)) : vs[i]? = some v := by
  unfold L2.start at h
  by_cases hi : i < vs.length
  · rw [List.getElem?_append_left (by simpa using hi), List.getElem?_map] at h
    cases e : vs[i]? with
    | none => rw [e] at h; cases h
    | some a => rw [e] at h; cases h; rfl
  · rw [List.getElem?_append_right (by simpa using hi), List.getElem?_replicate] at h
    split at h <;> cases h
theorem start_at {vs : List V} {N : List Str} {i : Nat} {v : V} (h : vs[i]? = some v) : (L2.start N vs)[i]? = some (some v) := by
  unfold L2.start
  obtain ⟨hi, e⟩ := List.getElem?_eq_some_iff.mp h
  rw [List.getElem?_append_left (by simpa using hi), List.getElem?_map, h]
  rfl
theorem rep_none {α : Type} {n i : Nat} {d : α} : (List.replicate n (none : Option α))[i]? ≠ some (some d) := by
  rw [List.getElem?_replicate]
  split <;> simp
theorem rel_start {b : Bool} {own : List Nat} {np : Nat} (ho : ownOk np N.length own = true) (hn : np ≤ N.length) {vs ws : List V} {H F : Hp} {src : Option Addr} {ds : List D} {s : Src} (hl : vs.length = np) (hh : HdV b src vs ws F H s) (sm : Same F H) (hd : DenAll K F ws ds) {T : Addr → Prop} (hT : ∀ p, T p → TabG H p ∧ F p = none) :
    ∃ A : Act, A.K = K ∧ A.w = w ∧ A.Of (slots0 b N.length own T) ∧ A.H0 = H ∧ A.src = src ∧ (∀ a, A.ex a ↔ H a ≠ none ∧ F a = none) ∧
      Rel A ((if b = true then [none] else []) ++ ds.map some ++ List.replicate (N.length - (ds.length + if b = true then 1 else 0)) none) s (L2.start N vs) H := by
  have hown : ∀ i ∈ own, np ≤ i ∧ i < N.length := fun i hi => by
    have := List.all_eq_true.mp ho i hi
    simpa using this
  have noroot : ∀ i p, i ∈ own → (L2.start N vs)[i]? ≠ some (some (.ref p)) := fun i p hi h => by
    have h1 := start_get h
    have := (List.getElem?_eq_some_iff.mp h1).1
    have := (hown i hi).1
    omega
  let A : Act := { K := K, own := own, H0 := H, ex := fun a => H a ≠ none ∧ F a = none, src := src, fix := match b, src with | true, some p => [(0, .ref p)] | _, _ => [], n := N.length, w := w, tb := T }
  have rt : ∀ a, ¬ IsRoot A (L2.start N vs) a := fun a ⟨i, h1, h2⟩ => noroot i a h1 h2
  have smF : Same F (fre A (L2.start N vs) H) := fun a o h => fre_of (sm a o h) (rt a) fun z => by rw [z.2] at h; cases h
  have hdl := hd.length
  refine ⟨A, rfl, rfl, ⟨rfl, ?_, rfl, fun i hi => ?_, rfl, fun i ns z => by cases z⟩, rfl, rfl, fun a => Iff.rfl, ?_⟩
  · cases b with
    | false => cases src <;> rfl
    | true =>
      obtain ⟨p, e, _⟩ := hh
      subst e
      rfl
  · cases b with
    | false => cases hi
    | true =>
      cases hi
      obtain ⟨p, e, _⟩ := hh
      subst e
      exact ⟨p, rfl, List.mem_singleton.mpr rfl⟩
  have hstl : (L2.start N vs).length = N.length := by
    unfold L2.start
    rw [List.length_append, List.length_map, List.length_replicate]
    omega
  have hρl : ((if b = true then [none] else []) ++ ds.map some ++ List.replicate (N.length - (ds.length + if b = true then 1 else 0)) none : Env).length = N.length := by
    cases b with
    | false =>
      obtain ⟨_, e⟩ := hh
      subst e
      simp only [Bool.false_eq_true, if_false, List.nil_append, List.length_append, List.length_map, List.length_replicate]
      omega
    | true =>
      obtain ⟨p, _, e, _⟩ := hh
      subst e
      rw [List.length_cons] at hl
      simp only [if_true, List.length_append, List.length_cons, List.length_nil, List.length_map, List.length_replicate]
      omega
  have hval : ∀ (i : Nat) (d : D), ((if b = true then [none] else []) ++ ds.map some ++ List.replicate (N.length - (ds.length + if b = true then 1 else 0)) none : Env)[i]? = some (some d) → i < np ∧ ∃ v, vs[i]? = some v ∧ Den K F v d := fun i d h => by
    cases b with
    | false =>
      obtain ⟨_, e⟩ := hh
      subst e
      simp only [Bool.false_eq_true, if_false, List.nil_append] at h
      by_cases hi : i < ds.length
      · rw [List.getElem?_append_left (by simpa using hi), List.getElem?_map] at h
        cases e : ds[i]? with
        | none => rw [e] at h; cases h
        | some d' =>
          rw [e] at h
          cases h
          obtain ⟨v, h1, h2⟩ := hd.get e
          exact ⟨by omega, v, h1, h2⟩
      · rw [List.getElem?_append_right (by simpa using hi)] at h
        exact absurd h rep_none
    | true =>
      obtain ⟨p, _, e, _⟩ := hh
      subst e
      simp only [if_true] at h
      cases i with
      | zero => cases h
      | succ i =>
        have h : (ds.map some ++ List.replicate (N.length - (ds.length + 1)) none : Env)[i]? = some (some d) := h
        rw [List.length_cons] at hl
        by_cases hi : i < ds.length
        · rw [List.getElem?_append_left (by simpa using hi), List.getElem?_map] at h
          cases e : ds[i]? with
          | none => rw [e] at h; cases h
          | some d' =>
            rw [e] at h
            cases h
            obtain ⟨v, h1, h2⟩ := hd.get e
            exact ⟨by omega, v, h1, h2⟩
        · rw [List.getElem?_append_right (by simpa using hi)] at h
          exact absurd h rep_none
  refine ⟨by rw [hρl, hstl], hρl, fun a o h _ => h, fun p hp => ?_, fun a ha => ?_, fun p hp => ?_, fun i d h n => ?_, fun i d h n => ?_, fun i p n h => absurd h (noroot i p n), fun i j p n _ h _ => absurd h (noroot i p n), fun p hp => ?_⟩
  · cases b with
    | false => rw [show A.src = src from rfl, hh.1] at hp; cases hp
    | true =>
      obtain ⟨q, e, _, h1, h2⟩ := hh
      rw [show A.src = src from rfl, e] at hp
      cases hp
      have : H p ≠ none := by rw [h1]; simp
      exact ⟨h1, this, this, h2⟩
  · exact Option.ne_none_iff_exists'.mp ha.1
  · cases b with
    | false =>
      have e : A.fix = [] := by cases src <;> rfl
      rw [e] at hp
      cases hp
    | true =>
      obtain ⟨q, e, e2, _⟩ := hh
      subst e e2
      obtain rfl : p = (0, .ref q) := List.mem_singleton.mp hp
      refine ⟨start_at rfl, fun z => ?_, rfl⟩
      have := (hown 0 z).1
      rw [← hl] at this
      simp at this
  · obtain ⟨hi, v, h1, h2⟩ := hval i d h
    exact ⟨v, start_at h1, h2.mono smF⟩
  · have := (hval i d h).1
    have := (hown i n).1
    omega
  · obtain ⟨t, hf⟩ := hT p hp
    have : H p ≠ none := by
      obtain ⟨qs, e, _⟩ := t
      rw [e]; simp
    exact ⟨t, this, this, hf⟩
/-- THE RULE: a def of the text does on data what its body does -/
theorem fn_data (T : Addr → Prop) (b : Bool) (F : Fun K x qual st f fd) (S : FnScope N ps (defScope st)) (own : List Nat) (ho : ownOk ps.length N.length own = true)
    (hbody : ∀ (cdv : Value) (A : Around) (outer : List PySem.Env) (s : Shared) (H : Hp) (E : XK), fd.code = cdv → RoomG k (A.deeper (envOfC qual (defScope st) s.heap.objs.size f cdv)) → N.Nodup →
      SDs (cxOf CX0 P w K mg base N qual (defScope st) f cdv A outer s H E).nox (slots0 b N.length own T) (defBody st) g) : FnG P w K mg base CX0 (k + 1) f fd ps (spU K T b ps.length (fFn b N.length g)) := by
  refine fn_at F S (fun vs H Q E h => ?_) fun cdv A0 outer s0 H vs Q E hcdv room h => ?_
  · obtain ⟨_, _, _, _, _, _, _, h, _⟩ := h
    exact h
  · obtain ⟨src, ws, F, ds, s, d, s', hl, hh, sm, hd, hG, hT, q⟩ := h
    have hn : ps.length ≤ N.length := by
      have := congrArg List.length S.pre
      rw [List.length_take] at this
      omega
    obtain ⟨A, e1, e2, e3, e4, e5, e6, R⟩ := rel_start (w := w) ho hn hl hh sm hd hT
    have B := hbody cdv A0 outer s0 H E hcdv room S.nd
    refine ⟨_, PSs.nox (B.run A ⟨e1, e2⟩ e3), ?_⟩
    unfold fFn at hG
    generalize hρ : ((if b = true then [none] else []) ++ ds.map some ++ List.replicate (N.length - (ds.length + if b = true then 1 else 0)) none : Env) = ρ at hG R
    cases h0 : g ρ s with
    | none => rw [h0] at hG; cases hG
    | some y =>
      obtain ⟨fl, ρ', s2⟩ := y
      rw [h0, Option.bind_some] at hG
      have fin : ∀ v σ' H', Rel A ρ' s' σ' H' → Den K (bar A H') v d → Q v H' := fun v σ' H' R' dv => by
        have etb : A.tb = T := e3.tb
        have keep : ∀ a o, H a = some o → ¬ (src = some a ∨ T a) → H' a = some o := fun a o ha n => R'.keep a o (by rw [e4]; exact ha) (by unfold Act.mv; rw [e5, etb]; exact n)
        have nex : ∀ a o, F a = some o → ¬ A.ex a := fun a o ha z => by rw [((e6 a).mp z).2] at ha; cases ha
        refine q v H' (bar A H') (fun p hp => (R'.src p (by rw [e5]; exact hp)).1) keep (fun p hp => (R'.tabs p (by rw [etb]; exact hp)).1) (fun a o ha => bar_of (keep a o (sm a o ha) fun z => ?_) (nex a o ha)) (fun a o ha => ?_) (fun a h1 h2 => ?_) dv
        · exact nex a o ha (R.mvEx (by unfold Act.mv; rw [e5, etb]; exact z))
        · unfold bar at ha
          split at ha
          · cases ha
          · exact ha
        · unfold bar
          rw [if_pos ((e6 a).mpr ⟨h1, h2⟩)]
      refine ⟨ρ, s, fl, ρ', s2, R, h0, ?_⟩
      cases fl with
      | nx =>
        cases hG
        exact fun σ' H' R' _ => fin .non σ' H' R' .non
      | rt d' =>
        cases hG
        rw [← e1] at fin
        exact fun v σ' H' R' _ dv => fin v σ' H' R' dv
      | bk => cases hG
      | ct => cases hG
end

/-! ### calls -/
def fUs (G : GFun) (fa : FA) : FE := fun ρ s => (fa ρ s).bind fun x => G x.1 x.2
theorem fUs_some {G : GFun} {fa : FA} {ρ : Env} {s s' : Src} {d : D} (h : fUs G fa ρ s = some (d, s')) : ∃ ds s1, fa ρ s = some (ds, s1) ∧ G ds s1 = some (d, s') := by
  unfold fUs at h
  cases h1 : fa ρ s with
  | none => rw [h1] at h; cases h
  | some x => rw [h1] at h; exact ⟨x.1, x.2, rfl, h⟩
theorem fre_back {A : Act} {ρ : Env} {s : Src} {σ : L2.St} {H H' F' : Hp} (R : Rel A ρ s σ H) (keep : ∀ a o, H a = some o → ¬ A.mv a → H' a = some o) (h1 : Same F' H') (h2 : ∀ a, H a ≠ none → fre A σ H a = none → F' a = none) : Same F' (fre A σ H') := fun a o ha => by
  have off : ∀ b, H b ≠ none → (IsRoot A σ b ∨ A.ex b) → F' b = none := fun b hb hz => h2 b hb (by unfold fre; rw [if_pos hz])
  refine fre_of (h1 a o ha) (fun z => ?_) fun z => ?_
  · obtain ⟨i, m, e⟩ := id z
    obtain ⟨_, _, ob, hb⟩ := R.root i a m e
    rw [off a (by rw [hb]; simp) (.inl z)] at ha; cases ha
  · obtain ⟨ob, hb⟩ := R.exin a z
    rw [off a (by rw [hb]; simp) (.inr z)] at ha; cases ha
/-- a step that changes the source alone -/
theorem Rel.src_step {A : Act} {ρ : Env} {s s' : Src} {σ : L2.St} {H H' : Hp} (R : Rel A ρ s σ H) (keep : ∀ a o, H a = some o → ¬ A.mv a → H' a = some o) (hs : ∀ p, A.src = some p → H' p = some (.lst (srcV s'))) (ht : ∀ p, A.tb p → TabG H' p) : Rel A ρ s' σ H' :=
  { len := R.len, nl := R.nl
    keep := fun a o h n => keep a o (R.keep a o h n) n
    src := fun p h => let ⟨_, a2, a3⟩ := R.src p h; ⟨hs p h, a2, a3⟩
    exin := fun a h => by
      obtain ⟨o, q⟩ := R.exin a h
      by_cases n : A.src = some a
      · exact ⟨_, hs a n⟩
      · by_cases n2 : A.tb a
        · obtain ⟨ps, e, _⟩ := ht a n2
          exact ⟨_, e⟩
        · exact ⟨o, keep a o q fun z => z.elim n n2⟩
    fix := R.fix
    val := fun j e h n => let ⟨v, h1, h2⟩ := R.val j e h n; ⟨v, h1, h2.mono (R.sm keep)⟩
    ownv := fun j e h n => by
      obtain ⟨p, o, h1, h2, h3⟩ := R.ownv j e h n
      exact ⟨p, o, h1, keep p o h2 fun z => (R.root j p n h1).2.1 (R.mvEx z), h3.mono (R.sm keep)⟩
    root := fun j p n h => by
      obtain ⟨a1, a2, o, a3⟩ := R.root j p n h
      exact ⟨a1, a2, o, keep p o a3 fun z => a2 (R.mvEx z)⟩
    inj := R.inj
    tabs := fun p h => let ⟨_, u⟩ := R.tabs p h; ⟨ht p h, u⟩ }
/-- the source is no table -/
theorem Rel.srcTab {A : Act} {ρ : Env} {s : Src} {σ : L2.St} {H : Hp} (R : Rel A ρ s σ H) {p : Addr} (h : A.src = some p) : ¬ A.tb p := fun z => by
  obtain ⟨⟨ps, e, _⟩, _⟩ := R.tabs p z
  rw [(R.src p h).1] at e
  cases e
section
variable {X : Cx} {own : Slots} {k n : Nat} {f : Addr} {fd : FuncData} {ps ks : List Str} {x : Str} {p pos : Pos} {e : Expr} {es : List Expr} {kws : List Keyword} {fa fb : FA} {G : GFun} {g : List Value → List Value → List Value} {gV : List V → List V → List V}
theorem Rel.forT {A : Act} {ρ : Env} {s : Src} {σ : L2.St} {H : Hp} (R : Rel A ρ s σ H) : ∀ p, A.tb p → TabG H p ∧ fre A σ H p = none := fun p h =>
  let ⟨t, _, u⟩ := R.tabs p h
  ⟨t, by unfold fre; rw [if_pos (.inr u)]⟩
/-- behind a call that leaves the source alone -/
theorem Rel.behind {A : Act} {ρ : Env} {s : Src} {σ : L2.St} {H H' : Hp} (R : Rel A ρ s σ H) (h1 : ∀ a o, H a = some o → ¬ ((none : Option Addr) = some a ∨ A.tb a) → H' a = some o) (ht : ∀ p, A.tb p → TabG H' p) : Rel A ρ s σ H' ∧ DL.Kp A H H' := by
  have kk : DL.Kp A H H' := fun a o h n => h1 a o h fun z => z.elim (fun z => by cases z) fun z => n (.inr z)
  exact ⟨R.src_step kk (fun p hp => h1 p _ (R.src p hp).1 fun z => z.elim (fun z => by cases z) (R.srcTab hp)) ht, kk⟩
theorem use_pure {A : Act} {ρ : Env} {s s' : Src} {σ : L2.St} {H : Hp} {vs : List V} {ds : List D} {d : D} {Q : VK} {G : List D → Option D} (R : Rel A ρ s σ H) (t : DenAll A.K (fre A σ H) vs ds) (hn : vs.length = n) (hG : pure1 G ds s = some (d, s'))
    (q : ∀ v H', Rel A ρ s' σ H' → Kp A H H' → Den A.K (fre A σ H') v d → Q v H') : spU A.K A.tb false n (pure1 G) vs H Q E0 := by
  have es : s' = s := by
    unfold pure1 at hG
    cases h : G ds with
    | none => rw [h] at hG; cases hG
    | some z => rw [h] at hG; cases hG; rfl
  subst es
  refine ⟨none, vs, fre A σ H, ds, s', d, s', hn, ⟨rfl, rfl⟩, fre_same, t, hG, R.forT, fun v H' F' _ h1 ht h2 h3 h4 h5 => ?_⟩
  obtain ⟨R', kk⟩ := R.behind h1 ht
  exact q v H' R' kk (h5.mono (fre_back R kk h3 h4))
/-- f(e, ..), f a def that leaves the source alone -/
theorem pd_user {G : List D → Option D} (F : FnG X.prog X.w X.K X.mg X.base CX0 k f fd ps (spU X.K own.tb false n (pure1 G))) (hr : RoomG k X.A) (hm : X.mg x = some (.ref f)) (hk : PySem.W.keepIn X.K (.ref f) = true) (hb : Binds X.K fd ps []) (ha : PAD X own (e :: es) fa)
    (hn : ∀ ρ s ds s', fa ρ s = some (ds, s') → ds.length = n) (hg : Gl X x := by rfl) (hdb : (x == ("__debug__" : Str)) = false := by decide) (he : starEach (e :: es) X.env = (false, eval e X.env) :: starEach es X.env := by rfl) (hpl : (backTo pos (starEach es X.env)).any (·.1) = false := by rfl) :
    PD X own (.Call (.Name x p) (e :: es) [] pos) (fUs (pure1 G) fa) :=
  ⟨fun A hK hw => (pe_callG F hr hg hm hk hb pass0 (ha.run A hK hw) hdb he hpl).imp fun σ H Q ⟨ρ, s, d, s', R, hf, q⟩ => by
    obtain ⟨ds, s1, h1, h2⟩ := fUs_some hf
    refine ⟨ρ, s, ds, s1, R, h1, fun vs H1 R1 k1 t1 => ?_⟩
    have := use_pure (n := n) R1 t1 (by rw [t1.length]; exact hn _ _ _ _ h1) h2 fun v H2 R2 k2 dv => q v H2 R2 (k1.trans k2) dv
    rw [hK.1, hw.tb] at this
    exact this⟩
end
end DL
/-! More calls; the source; stores into own lists. -/
namespace DL
open PySem PySem.Spec PyProof.Rows L2 GX

/-- so many data -/
def AL (fa : FA) (n : Nat) : Prop := ∀ ρ s ds s', fa ρ s = some (ds, s') → ds.length = n
theorem al_nil : AL fNil 0 := fun ρ s ds s' h => by cases h; rfl
theorem al_cons {f : FE} {g : FA} {n : Nat} (h : AL g n) : AL (fCons f g) (n + 1) := fun ρ s ds s' e => by
  obtain ⟨d, s1, es, h1, h2, rfl⟩ := fCons_some e
  rw [List.length_cons, h _ _ _ _ h2]

/-! ### borrowed arguments: the result bears no list -/
mutual
def nol : D → Bool
  | .list _ => false
  | .dict _ => false
  | .tuple ds => nols ds
  | _ => true
def nols : List D → Bool
  | [] => true
  | d :: ds => nol d && nols ds
end
mutual
theorem nol_den {K : PySem.W.Frag} {F G : Hp} (h : ∀ a xs, SqT K F a xs → SqT K G a xs) (hp : ∀ a xs, SqT K F a xs → PlT K F a → PlT K G a) : ∀ {d : D} {v : V}, nol d = true → Den K F v d → Den K G v d
  | .none, _, _, q => by cases q; exact .non
  | .bool _, _, _, q => by cases q; exact .bl _
  | .int _, _, _, q => by cases q; exact .int _
  | .str _, _, _, q => by cases q; exact .str _
  | .list _, _, n, _ => by cases n
  | .dict _, _, n, _ => by cases n
  | .tuple ds, _, n, q => by
    cases q with
    | tup h1 h2 h3 => exact .tup (h _ _ h1) (nols_den h hp (by rw [nol] at n; exact n) h2) fun z => hp _ _ h1 (h3 z)
theorem nols_den {K : PySem.W.Frag} {F G : Hp} (h : ∀ a xs, SqT K F a xs → SqT K G a xs) (hp : ∀ a xs, SqT K F a xs → PlT K F a → PlT K G a) : ∀ {ds : List D} {vs : List V}, nols ds = true → DenAll K F vs ds → DenAll K G vs ds
  | [], _, _, q => by cases q; exact .nil
  | d :: ds, _, n, q => by
    rw [nols, Bool.and_eq_true] at n
    cases q with
    | cons h1 h2 => exact .cons (nol_den h hp n.1 h1) (nols_den h hp n.2 h2)
end
open Classical in
/-- data, and every list that is not barred -/
noncomputable def withL (A : Act) (σ : L2.St) (H : Hp) : Hp := fun a => if (∃ vs, H a = some (.lst vs)) ∧ ¬ A.ex a then H a else fre A σ H a
section
variable {A : Act} {ρ : Env} {s s' : Src} {σ : L2.St} {H H' : Hp}
theorem withL_same : Same (withL A σ H) H := fun a o h => by
  unfold withL at h
  split at h
  · exact h
  · exact fre_same a o h
theorem fre_withL : Same (fre A σ H) (withL A σ H) := fun a o h => by
  unfold withL
  split
  · exact fre_same a o h
  · exact h
theorem TopAll.withL {vs : List V} {ds : List D} (h : TopAll A σ H vs ds) (hd : ds.all (fun d => !isDict d) = true) : DenAll A.K (withL A σ H) vs ds := by
  induction h with
  | nil => exact .nil
  | @cons v vs d ds h1 _ ih =>
    rw [List.all_cons, Bool.and_eq_true] at hd
    refine .cons ?_ (ih hd.2)
    cases d with
    | list es =>
      obtain ⟨a, xs, rfl, nx, ha, q⟩ := h1.list
      refine .lst ?_ (q.mono fre_withL)
      unfold DL.withL
      rw [if_pos ⟨⟨xs, ha⟩, nx⟩]
      exact ha
    | dict kvs => cases hd.1
    | none => exact Den.mono fre_withL h1
    | bool _ => exact Den.mono fre_withL h1
    | int _ => exact Den.mono fre_withL h1
    | str _ => exact Den.mono fre_withL h1
    | tuple _ => exact Den.mono fre_withL h1
theorem Rel.forL (R : Rel A ρ s σ H) : ∀ p, A.tb p → TabG H p ∧ withL A σ H p = none := fun p h => by
  obtain ⟨t, _, u⟩ := R.tabs p h
  refine ⟨t, ?_⟩
  unfold DL.withL
  rw [if_neg (fun z => z.2 u)]
  unfold fre
  rw [if_pos (.inr u)]
def fUsB (g : List D → Option D) (fa : FA) : FE := fun ρ s => (fa ρ s).bind fun x => if x.1.all (fun d => !isDict d) = true then (g x.1).bind fun d => if nol d = true then some (d, x.2) else none else none
end
section
variable {X : Cx} {own : Slots} {k n : Nat} {f : Addr} {fd : FuncData} {ps ks : List Str} {x : Str} {p pos : Pos} {e : Expr} {es : List Expr} {kws : List Keyword} {fa fb : FA}
/-- f(e, ..) of one's own lists too; what comes back bears no list -/
theorem pd_userB {g : List D → Option D} (F : FnG X.prog X.w X.K X.mg X.base CX0 k f fd ps (spU X.K own.tb false n (pure1 g))) (hr : RoomG k X.A) (hm : X.mg x = some (.ref f)) (hk : PySem.W.keepIn X.K (.ref f) = true) (hb : Binds X.K fd ps []) (ha : PAB X own (e :: es) fa)
    (hn : AL fa n) (hg : Gl X x := by rfl) (hdb : (x == ("__debug__" : Str)) = false := by decide) (he : starEach (e :: es) X.env = (false, eval e X.env) :: starEach es X.env := by rfl) (hpl : (backTo pos (starEach es X.env)).any (·.1) = false := by rfl) :
    PD X own (.Call (.Name x p) (e :: es) [] pos) (fUsB g fa) :=
  ⟨fun A hK hw => (pe_callG F hr hg hm hk hb pass0 (ha.run A hK hw) hdb he hpl).imp fun σ H Q ⟨ρ, s, d, s', R, hf, q⟩ => by
    unfold fUsB at hf
    cases h1 : fa ρ s with
    | none => rw [h1] at hf; cases hf
    | some y =>
      obtain ⟨ds, s1⟩ := y
      rw [h1, Option.bind_some] at hf
      split at hf
      case isFalse => cases hf
      rename_i hnd
      cases h2 : g ds with
      | none => rw [h2] at hf; cases hf
      | some z =>
        rw [h2, Option.bind_some] at hf
        split at hf
        case isFalse => cases hf
        rename_i hno
        cases hf
        refine ⟨ρ, s, ds, s1, R, h1, fun vs H1 R1 k1 t1 => ?_⟩
        have dn := t1.withL hnd
        rw [← hK.1, ← hw.tb]
        refine ⟨none, vs, withL A σ H1, ds, s1, d, s1, by rw [dn.length]; exact hn _ _ _ _ h1, ⟨rfl, rfl⟩, withL_same, dn, by unfold pure1; rw [h2]; rfl, R1.forL, fun v H2 F2 _ h3 ht h4 h5 h6 h7 => ?_⟩
        obtain ⟨R2, kk⟩ := R1.behind h3 ht
        have tup : ∀ (a : Addr) o, F2 a = some o → (∀ ys, o ≠ .lst ys) → fre A σ H2 a = some o := fun a o ho nl => by
          have h2a := h5 a o ho
          have off : H1 a ≠ none → withL A σ H1 a ≠ none := fun h z => by rw [h6 a h z] at ho; cases ho
          refine fre_of h2a (fun z => ?_) fun z => ?_
          · obtain ⟨i, m, er⟩ := id z
            obtain ⟨_, _, ob, hb⟩ := R1.root i a m er
            have := off (by rw [hb]; simp)
            unfold withL at this
            split at this
            · rename_i hl
              obtain ⟨⟨ys, hy⟩, _⟩ := hl
              rw [kk a _ hy fun z => by
                obtain ⟨_, n2, _⟩ := R1.root i a m er
                exact n2 (R1.mvEx z)] at h2a
              exact nl ys (Option.some.inj h2a).symm
            · exact this (by unfold fre; rw [if_pos (.inl z)])
          · obtain ⟨ob, hb⟩ := R1.exin a z
            have := off (by rw [hb]; simp)
            unfold withL at this
            split at this
            · rename_i hl
              exact hl.2 z
            · exact this (by unfold fre; rw [if_pos (.inr z)])
        refine q v H2 R2 (k1.trans kk) (nol_den (fun a xs hs => ?_) (fun a xs _ hp => ?_) hno h7)
        · rcases hs with (hs | ⟨o, hs⟩) | hs
          · exact .inl (.inl (tup a _ hs fun ys z => by cases z))
          · exact .inl (.inr ⟨o, tup a _ hs fun ys z => by cases z⟩)
          · exact .inr hs
        · exact hp.imp (fun ⟨o, u, hs, d⟩ => ⟨o, u, tup a _ hs (fun ys z => by cases z), d⟩) id⟩

/-! ### keywords -/
structure PKD (X : Cx) (own : Slots) (kws : List Keyword) (f : FA) : Prop where
  run : ∀ A : Act, A.At X → A.Of own → PK X kws (tA A f)
theorem _root_.L2.PK.imp {X : Cx} {es : List Keyword} {t t' : TA} (h : PK X es t) (q : ∀ σ H Q, t' σ H Q → t σ H Q) : PK X es t' :=
  ⟨fun pos pins s σ H Q I hw => h.run pos pins s σ H Q I (q σ H Q hw)⟩
theorem pkd_nil : PKD X own [] fNil := ⟨fun A hk hw => pk_nil.imp fun σ H Q ⟨ρ, s, d, s', R, hf, q⟩ => by cases hf; exact q [] H R (DL.Kp.refl _ _) .nil⟩
theorem pkd_cons {nm : Option Str} {kpos : Pos} {fe : FE} {g : FA} (ha : PD X own e fe) (hr : PKD X own kws g) : PKD X own (⟨nm, e, kpos⟩ :: kws) (fCons fe g) :=
  ⟨fun A hk hw => (pk_cons (ha.run A hk hw) (hr.run A hk hw)).imp fun σ H Q ⟨ρ, s, ds, s', R, hf, q⟩ => by
    obtain ⟨d, s1, es, h1, h2, rfl⟩ := fCons_some hf
    exact ⟨ρ, s, d, s1, R, h1, fun v H1 R1 k1 t1 => ⟨ρ, s1, es, s', R1, h2, fun vs H2 R2 k2 t2 => q _ H2 R2 (k1.trans k2) (.cons (Den.mono (R1.sm k2) t1) t2)⟩⟩⟩
/-- the values in the parameters' order -/
def pick {α : Type} (π : List Nat) (l : List α) : List α := π.filterMap fun i => l[i]?
def putIn {α : Type} (nu nk : Nat) (π : List Nat) (us ws : List α) : List α := if us.length = nu ∧ ws.length = nk then pick π (us ++ ws) else []
theorem pick_den {K : PySem.W.Frag} {F : Hp} {vs : List V} {ds : List D} (h : DenAll K F vs ds) : ∀ π : List Nat, DenAll K F (pick π vs) (pick π ds)
  | [] => .nil
  | i :: π => by
    unfold pick
    rw [List.filterMap_cons, List.filterMap_cons]
    cases e : ds[i]? with
    | none =>
      have : vs[i]? = none := by
        rw [List.getElem?_eq_none_iff] at e ⊢
        rw [h.length]
        exact e
      rw [this]
      exact pick_den h π
    | some d =>
      obtain ⟨v, h1, h2⟩ := h.get e
      rw [h1]
      exact .cons h2 (pick_den h π)
theorem pick_vals {vs : List V} {us : List Value} (h : Vals vs us) : ∀ π : List Nat, Vals (pick π vs) (pick π us)
  | [] => .nil
  | i :: π => by
    unfold pick
    rw [List.filterMap_cons, List.filterMap_cons]
    cases e : vs[i]? with
    | none =>
      have : us[i]? = none := by
        rw [List.getElem?_eq_none_iff] at e ⊢
        rw [← h.length]
        exact e
      rw [this]
      exact pick_vals h π
    | some d =>
      obtain ⟨v, h1, h2⟩ := h.get e
      rw [h1]
      exact .cons h2 (pick_vals h π)
theorem kbinds_of {K : PySem.W.Frag} {qual : Str} {st : Stmt} {nu : Nat} {π : List Nat} (F : Fun K x qual st f fd) (hp : 0 < ps.length)
    (h : ∀ (kV doc pm : Value) (an : Option Addr) (cdv ct : Value) (us ws : List Value), us.length = nu → ws.length = ks.length → bindArgs (PySem.W.fnOf x qual (defArgs st) (defBody st) (defScope st) .none kV doc pm an cdv ct) ⟨us, ks.zip ws⟩ = pure (ps.zip (pick π (us ++ ws)))) :
    KBinds K fd ps ks (putIn nu ks.length π) (putIn nu ks.length π) := by
  obtain ⟨oc, od, kV, doc, pm, an, cdv, ct, osl, rfl, lk, hcd⟩ := F.ex
  refine ⟨fun s us ws _ hl => ?_, fun {vs us zs ws} r1 r2 => ?_⟩
  · unfold putIn at hl ⊢
    split at hl
    · rename_i hc
      rw [if_pos hc]
      exact .of_eq (h kV doc pm an cdv ct us ws hc.1 hc.2)
    · rw [List.length_nil] at hl
      omega
  · unfold putIn
    rw [r1.length, r2.length]
    split
    · exact pick_vals (r1.append r2) π
    · exact .nil
def fUsK (G : List D → Option D) (nu nk : Nat) (π : List Nat) (fa fb : FA) : FE := fun ρ s => (fa ρ s).bind fun x => (fb ρ x.2).bind fun y => (G (putIn nu nk π x.1 y.1)).map (·, y.2)
theorem putIn_den {K : PySem.W.Frag} {F : Hp} {vs zs : List V} {ds es : List D} (h1 : DenAll K F vs ds) (h2 : DenAll K F zs es) (nu nk : Nat) (π : List Nat) : DenAll K F (putIn nu nk π vs zs) (putIn nu nk π ds es) := by
  unfold putIn
  rw [h1.length, h2.length]
  split
  · exact pick_den (h1.append h2) π
  · exact .nil
theorem fUsK_some {G : List D → Option D} {nu nk : Nat} {π : List Nat} {ρ : Env} {s s' : Src} {d : D} (h : fUsK G nu nk π fa fb ρ s = some (d, s')) : ∃ ds s1 es, fa ρ s = some (ds, s1) ∧ fb ρ s1 = some (es, s') ∧ G (putIn nu nk π ds es) = some d := by
  unfold fUsK at h
  cases h1 : fa ρ s with
  | none => rw [h1] at h; cases h
  | some x =>
    rw [h1, Option.bind_some] at h
    cases h2 : fb ρ x.2 with
    | none => rw [h2] at h; cases h
    | some y =>
      rw [h2, Option.bind_some] at h
      cases h3 : G (putIn nu nk π x.1 y.1) with
      | none => rw [h3] at h; cases h
      | some z =>
        rw [h3] at h
        cases h
        exact ⟨x.1, x.2, y.1, rfl, h2, h3⟩
variable {nu : Nat} {π : List Nat}
theorem pd_userK {G : List D → Option D} (F : FnG X.prog X.w X.K X.mg X.base CX0 k f fd ps (spU X.K own.tb false n (pure1 G))) (hr : RoomG k X.A) (hm : X.mg x = some (.ref f)) (hk : PySem.W.keepIn X.K (.ref f) = true) (hb : KBinds X.K fd ps ks (putIn nu ks.length π) (putIn nu ks.length π)) (ha : PAD X own (e :: es) fa) (hkw : PKD X own kws fb)
    (hn : ∀ ds es : List D, (G (putIn nu ks.length π ds es)).isSome = true → (putIn nu ks.length π ds es).length = n) (hg : Gl X x := by rfl)
    (hall : (backToKw pos (keywordEach kws X.env)).all (·.1.isSome) = true := by rfl) (hks : (backToKw pos (keywordEach kws X.env)).filterMap (·.1) = ks := by rfl) (hdb : (x == ("__debug__" : Str)) = false := by decide)
    (he : starEach (e :: es) X.env = (false, eval e X.env) :: starEach es X.env := by rfl) (hpl : ((backTo pos (starEach (e :: es) X.env)).any (·.1) || (backToKw pos (keywordEach kws X.env)).any (·.1.isNone)) = false := by rfl) :
    PD X own (.Call (.Name x p) (e :: es) kws pos) (fUsK G nu ks.length π fa fb) :=
  ⟨fun A hK hw => (pe_callGK F hr hg hm hk hb pass0 (ha.run A hK hw) (hkw.run A hK hw) hall hks hdb he hpl).imp fun σ H Q ⟨ρ, s, d, s', R, hf, q⟩ => by
    obtain ⟨ds, s1, es, h1, h2, h3⟩ := fUsK_some hf
    refine ⟨ρ, s, ds, s1, R, h1, fun vs H1 R1 k1 t1 => ⟨ρ, s1, es, s', R1, h2, fun zs H2 R2 k2 t2 => ?_⟩⟩
    have t := putIn_den (t1.mono (R1.sm k2)) t2 nu ks.length π
    have := use_pure (n := n) (G := G) R2 t (by rw [t.length]; exact hn ds es (by rw [h3]; rfl)) (by unfold pure1; rw [h3]; rfl) fun v H3 R3 k3 dv => q v H3 R3 ((k1.trans k2).trans k3) dv
    rw [hK.1, hw.tb] at this
    exact this⟩
theorem pd_userK0 {G : List D → Option D} (F : FnG X.prog X.w X.K X.mg X.base CX0 k f fd ps (spU X.K own.tb false n (pure1 G))) (hr : RoomG k X.A) (hm : X.mg x = some (.ref f)) (hk : PySem.W.keepIn X.K (.ref f) = true) (hb : KBinds X.K fd ps ks (putIn 0 ks.length π) (putIn 0 ks.length π)) (hkw : PKD X own kws fb)
    (hn : ∀ ds es : List D, (G (putIn 0 ks.length π ds es)).isSome = true → (putIn 0 ks.length π ds es).length = n) (hg : Gl X x := by rfl)
    (hall : (backToKw pos (keywordEach kws X.env)).all (·.1.isSome) = true := by rfl) (hks : (backToKw pos (keywordEach kws X.env)).filterMap (·.1) = ks := by rfl) (hdb : (x == ("__debug__" : Str)) = false := by decide)
    (hpl : ((backTo pos (starEach [] X.env)).any (·.1) || (backToKw pos (keywordEach kws X.env)).any (·.1.isNone)) = false := by rfl) :
    PD X own (.Call (.Name x p) [] kws pos) (fUsK G 0 ks.length π fNil fb) :=
  ⟨fun A hK hw => (pe_callGK0 F hr hg hm hk hb pass0 (hkw.run A hK hw) hall hks hdb hpl).imp fun σ H Q ⟨ρ, s, d, s', R, hf, q⟩ => by
    obtain ⟨ds, s1, es, h1, h2, h3⟩ := fUsK_some hf
    cases h1
    refine ⟨ρ, s, es, s', R, h2, fun zs H2 R2 k2 t2 => ?_⟩
    have t := putIn_den (.nil : DenAll A.K (fre A σ H2) [] []) t2 0 ks.length π
    have := use_pure (n := n) (G := G) R2 t (by rw [t.length]; exact hn [] es (by rw [h3]; rfl)) (by unfold pure1; rw [h3]; rfl) fun v H3 R3 k3 dv => q v H3 R3 (k2.trans k3) dv
    rw [hK.1, hw.tb] at this
    exact this⟩

/-! ### the source -/
/-- f(source, ..) -/
theorem pd_userS {G : GFun} (i : Nat) {x0 : Str} {p0 : Pos} (hsl : own.sl = some i) (F : FnG X.prog X.w X.K X.mg X.base CX0 k f fd ps (spU X.K own.tb true (n + 1) G)) (hr : RoomG k X.A) (hm : X.mg x = some (.ref f)) (hk : PySem.W.keepIn X.K (.ref f) = true) (hb : Binds X.K fd ps []) (ha : PAD X own es fa)
    (hn : AL fa n) (hg : Gl X x := by rfl) (hN : X.N[i]? = some x0 := by rfl) (hv : Vis X.env.scope x0 := by first | exact Or.inl rfl | exact Or.inr (Or.inl rfl) | exact Or.inr (Or.inr rfl)) (hd : (x0 == ("__debug__" : Str)) = false := by decide) (hcd : (x0 == ("__classdict__" : Str)) = false := by decide)
    (hdb : (x == ("__debug__" : Str)) = false := by decide) (he : starEach (.Name x0 p0 :: es) X.env = (false, eval (.Name x0 p0) X.env) :: starEach es X.env := by rfl) (hpl : (backTo pos (starEach es X.env)).any (·.1) = false := by rfl) :
    PD X own (.Call (.Name x p) (.Name x0 p0 :: es) [] pos) (fUs G fa) :=
  ⟨fun A hK hw => (pe_callG F hr hg hm hk hb pass0 (pa_cons (pe_var hN hv hd hcd) (ha.run A hK hw) he) hdb he hpl).imp fun σ H Q ⟨ρ, s, d, s', R, hf, q⟩ => by
    obtain ⟨ds, s1, h1, h2⟩ := fUs_some hf
    obtain ⟨p, hp, hfx⟩ := hw.sl i hsl
    refine ⟨.ref p, (R.fix _ hfx).1, ρ, s, ds, s1, R, h1, fun vs H1 R1 k1 t1 => ?_⟩
    obtain ⟨a1, a2, a3⟩ := R1.src p hp
    have fp : fre A σ H1 p = none := by unfold fre; rw [if_pos (.inr a3)]
    rw [← hK.1, ← hw.tb]
    refine ⟨some p, vs, fre A σ H1, ds, s1, d, s', by rw [List.length_cons, t1.length, hn _ _ _ _ h1], ⟨p, rfl, rfl, a1, fp⟩, fre_same, t1, h2, R1.forT, fun v H2 F2 h3 h4 ht h5 h6 h7 h8 => ?_⟩
    have keep : Kp A H1 H2 := fun a o h z => h4 a o h fun e => z (by unfold Act.mv; rw [hp]; exact e)
    have R2 := R1.src_step keep (fun q hq => h3 q (by rw [← hp]; exact hq)) ht
    exact q v H2 R2 (k1.trans keep) (h8.mono (fre_back R1 keep h6 h7))⟩
def srcGet (j : Int) (s : Src) : Option Int := if j = 0 then some s.1 else if j = 1 then some s.2.1 else if j = 2 then some s.2.2 else none
def srcSet (j : Int) (s : Src) (v : Int) : Option Src := if j = 0 then some (v, s.2.1, s.2.2) else if j = 1 then some (s.1, v, s.2.2) else if j = 2 then some (s.1, s.2.1, v) else none
def fSrc (j : Int) : FE := fun ρ s => (srcGet j s).map fun v => (.int v, s)
/-- source[j] -/
theorem pd_src (i : Nat) {x0 : Str} {p0 p1 : Pos} {j : Int} {c : Nat} (hsl : own.sl = some i) (hN : X.N[i]? = some x0 := by rfl) (hv : Vis X.env.scope x0 := by first | exact Or.inl rfl | exact Or.inr (Or.inl rfl) | exact Or.inr (Or.inr rfl)) (hd : (x0 == ("__debug__" : Str)) = false := by decide) (hcd : (x0 == ("__classdict__" : Str)) = false := by decide)
    (hs : PlainIx (.Constant (.int j) c p1) := by intro _ _; rfl) : PD X own (.Subscript (.Name x0 p0) (.Constant (.int j) c p1) pos) (fSrc j) :=
  ⟨fun A hK hw => (pe_ix ix_list (pe_var hN hv hd hcd) pe_int hs).imp fun σ H Q ⟨ρ, s, d, s', R, hf, q⟩ => by
    obtain ⟨p, hp, hfx⟩ := hw.sl i hsl
    unfold fSrc at hf
    cases h0 : srcGet j s with
    | none => rw [h0] at hf; cases hf
    | some v =>
      rw [h0] at hf
      cases hf
      refine ⟨.ref p, (R.fix _ hfx).1, p, srcV s, j, .int v, rfl, rfl, SqL.of (R.src p hp).1, ?_, q _ H R (DL.Kp.refl _ _) (.int v)⟩
      unfold srcGet at h0
      split at h0
      · rename_i e; subst e; cases h0; rfl
      · split at h0
        · rename_i e; subst e; cases h0; rfl
        · split at h0
          · rename_i e; subst e; cases h0; rfl
          · cases h0⟩
def fSrcSet (j : Int) (fe : FE) : FS := fun ρ s => (fe ρ s).bind fun x => match x.1 with
  | .int v => (srcSet j x.2 v).map fun s' => (.nx, ρ, s')
  | _ => none
/-- source[j] = e -/
theorem sd_src (i : Nat) {x0 : Str} {p0 p1 p2 : Pos} {j : Int} {c : Nat} {fe : FE} (hsl : own.sl = some i) (he : PD X own e fe) (hN : X.N[i]? = some x0 := by rfl) (hv : Vis X.env.scope x0 := by first | exact Or.inl rfl | exact Or.inr (Or.inl rfl) | exact Or.inr (Or.inr rfl)) (hd : (x0 == ("__debug__" : Str)) = false := by decide) (hcd : (x0 == ("__classdict__" : Str)) = false := by decide)
    (ha : ∀ v, assign (.Subscript (.Name x0 p0) (.Constant (.int j) c p1) p2) X.env v = (do
      let ov ← holding [v] (eval (.Name x0 p0) X.env)
      let iv ← holding [v, ov] (eval (.Constant (.int j) c p1) X.env)
      standAt p2
      holding [v, ov, iv] (setItem ov iv v)
      release [v, ov, iv] []) := by intro _; rfl)
    (hs : swapsWithSole [.Subscript (.Name x0 p0) (.Constant (.int j) c p1) p2] e pos.line X.env = pure false := by rfl) (hw : swappedStores [.Subscript (.Name x0 p0) (.Constant (.int j) c p1) p2] e X.env = pure none := by rfl)
    (h1 : (assignEach [.Subscript (.Name x0 p0) (.Constant (.int j) c p1) p2] X.env).map (·.2) = [assign (.Subscript (.Name x0 p0) (.Constant (.int j) c p1) p2) X.env] := by rfl) :
    SD X own (.Assign [.Subscript (.Name x0 p0) (.Constant (.int j) c p1) p2] e pos) (fSrcSet j fe) :=
  ⟨fun A hK hW => (ps_asg (he.run A hK hW) (pg_sub (pe_var hN hv hd hcd) pe_int set_list ha) hs hw h1).imp fun E σ H ⟨ρ, s, fl, ρ', s', R, hf, q⟩ => by
    obtain ⟨p, hp, hfx⟩ := hW.sl i hsl
    unfold fSrcSet at hf
    cases h0 : fe ρ s with
    | none => rw [h0] at hf; cases hf
    | some y =>
      obtain ⟨d, s1⟩ := y
      rw [h0, Option.bind_some] at hf
      cases d <;> try (cases hf; done)
      rename_i v
      cases h2 : srcSet j s1 v with
      | none => simp only [h2] at hf; cases hf
      | some s2 =>
        simp only [h2] at hf
        cases hf
        refine ⟨ρ, s, .int v, s1, R, h0, fun u H1 R1 k1 t1 => ?_⟩
        cases t1
        obtain ⟨a1, a2, a3⟩ := R1.src p hp
        have fin : ∀ jn : Nat, ixN (srcV s1).length j = some jn → (srcV s1).set jn (.int v) = srcV s' → ∃ a xs k jj, V.ref p = .ref a ∧ V.int j = .int k ∧ H1 a = some (.lst xs) ∧ ixN xs.length k = some jj ∧ E.nx σ (upd H1 a (.lst (xs.set jj (.int v)))) := fun jn e1 e2 => by
          refine ⟨p, srcV s1, j, jn, rfl, rfl, a1, e1, ?_⟩
          rw [e2]
          have keep : Kp A H1 (upd H1 p (.lst (srcV s'))) := fun a o h z => by
            have ne : a ≠ p := fun e => z (by rw [e]; exact .inl hp)
            rw [upd_ne ne]
            exact h
          have R2 := R1.src_step (s' := s') keep (fun q hq => by
            rw [hp] at hq
            cases hq
            exact upd_same) fun q hq => (R1.tabs q hq).1.keep fun o e => by
              have ne : q ≠ p := fun z => R1.srcTab hp (by rw [← z]; exact hq)
              rw [upd_ne ne]
              exact e
          exact q σ _ R2 ((k1.trans keep).fr)
        refine ⟨.ref p, (R1.fix _ hfx).1, ?_⟩
        unfold srcSet at h2
        split at h2
        · rename_i e; subst e; cases h2; exact fin 0 rfl rfl
        · split at h2
          · rename_i e; subst e; cases h2; exact fin 1 rfl rfl
          · split at h2
            · rename_i e; subst e; cases h2; exact fin 2 rfl rfl
            · cases h2⟩
end
end DL
/-! Own lists and dicts. -/
namespace DL
open PySem PySem.Spec PyProof.Rows L2 GX
section
variable {X : Cx} {own : Slots} {e e2 : Expr} {es : List Expr} {f fa fb : FE} {x0 : Str} {p0 apos cpos pos tpos : Pos}
/-- the list in an own slot -/
theorem own_list {A : Act} {ρ : Env} {s : Src} {σ : L2.St} {H : Hp} {i : Nat} {ds : List D} (R : Rel A ρ s σ H) (hi : i ∈ A.own) (h : ρ.getD i none = some (.list ds)) : ∃ p vs, σ[i]? = some (some (.ref p)) ∧ H p = some (.lst vs) ∧ DenAll A.K (fre A σ H) vs ds ∧ ¬ A.mv p := by
  obtain ⟨p, o, h1, h2, vs, rfl, h3⟩ := R.ownv i _ (getD_some h) hi
  exact ⟨p, vs, h1, h2, h3, fun z => (R.root i p hi h1).2.1 (R.mvEx z)⟩
def fApp (i : Nat) (f : FE) : FS := fun ρ s => (f ρ s).bind fun x => match ρ.getD i none with
  | some (.list ds) => if ds.length < 1000000 then some (.nx, ρ.set i (some (.list (ds ++ [x.1]))), x.2) else none
  | _ => none
theorem fApp_some {i : Nat} {ρ ρ' : Env} {s s' : Src} {fl : Fl} (h : fApp i f ρ s = some (fl, ρ', s')) : ∃ d ds, f ρ s = some (d, s') ∧ ρ.getD i none = some (.list ds) ∧ ds.length < 1000000 ∧ fl = .nx ∧ ρ' = ρ.set i (some (.list (ds ++ [d]))) := by
  unfold fApp at h
  cases h1 : f ρ s with
  | none => rw [h1] at h; cases h
  | some x =>
    obtain ⟨d, s1⟩ := x
    rw [h1, Option.bind_some] at h
    split at h
    · rename_i ds hd
      split at h
      · cases h; exact ⟨d, ds, rfl, hd, by assumption, rfl, rfl⟩
      · cases h
    · cases h
theorem lt24 {n : Nat} (h : n < 1000000) : n < sizeLine := Nat.lt_trans h (by decide)
/-- l.append(e) -/
theorem sd_append (i : Nat) (he : PD X own e f) (hi : own.own.contains i = true := by rfl) (hN : X.N[i]? = some x0 := by rfl) (hv : Vis X.env.scope x0 := by first | exact Or.inl rfl | exact Or.inr (Or.inl rfl) | exact Or.inr (Or.inr rfl)) (hd : (x0 == ("__debug__" : Str)) = false := by decide) (hcd : (x0 == ("__classdict__" : Str)) = false := by decide)
    (hs : swapsWith (.Call (.Attribute (.Name x0 p0) "append" apos) [e] [] cpos) none pos.line X.env = pure false := by rfl)
    (hbase : attributeBase (.Name x0 p0) "append" X.env (eval (.Name x0 p0) X.env) = eval (.Name x0 p0) X.env := by rfl)
    (hfew : ((backTo cpos (starEach [e] X.env)).all (fun x => !x.1) && (backToKw cpos (keywordEach [] X.env)).all (fun x => x.1.isSome) && decide (([e] : List Expr).length + ([] : List Keyword).length + (if ([] : List Keyword).isEmpty then 0 else 1) < 30)) = true := by rfl)
    (hline : (apos.endLine == cpos.line) = true := by rfl) (hst : starEach [e] X.env = (false, eval e X.env) :: starEach [] X.env := by rfl) :
    SD X own (.Expr (.Call (.Attribute (.Name x0 p0) "append" apos) [e] [] cpos) pos) (fApp i f) :=
  ⟨fun A hK hW => (ps_expr (pe_bm F.plainAttrs_list F.slot_list_append F.type_list_append mt_append (pe_var hN hv hd hcd) (pa_cons (he.run A hK hW) pa_nil hst) hbase hfew hline hst rfl) hs).imp fun E σ H ⟨ρ, s, fl, ρ', s', R, hf, q⟩ => by
    obtain ⟨d, ds, h1, h2, hl, rfl, rfl⟩ := fApp_some hf
    have hio := hW.isown hi
    obtain ⟨p, vs, e1, e2, e3, ns⟩ := own_list R hio h2
    refine ⟨.ref p, e1, .inl ⟨rfl, vs, SqL.of e2⟩, ρ, s, d, s', R, h1, fun v H1 R1 k1 d1 => ?_⟩
    obtain ⟨p', vs1, e1', e2', e3', _⟩ := own_list R1 hio h2
    rw [e1] at e1'
    cases e1'
    refine ⟨p, vs1, v, rfl, rfl, e2', by rw [e3'.length]; exact lt24 hl, ?_⟩
    obtain ⟨R2, F2⟩ := R1.change (d := .list (ds ++ [d])) hio e1 (o := .lst (vs1 ++ [v])) ⟨_, rfl, e3'.append (.cons d1 .nil)⟩
    exact q σ _ R2 (k1.fr.trans F2)⟩
/-- l.extend(e), e a new list -/
def fExt (i : Nat) (f : FE) : FS := fun ρ s => (f ρ s).bind fun x => match ρ.getD i none, x.1 with
  | some (.list ds), .list es => if ds.length + es.length < 1000000 then some (.nx, ρ.set i (some (.list (ds ++ es))), x.2) else none
  | _, _ => none
theorem sd_extend (i : Nat) (he : PB X own e f) (hi : own.own.contains i = true := by rfl) (hN : X.N[i]? = some x0 := by rfl) (hv : Vis X.env.scope x0 := by first | exact Or.inl rfl | exact Or.inr (Or.inl rfl) | exact Or.inr (Or.inr rfl)) (hd : (x0 == ("__debug__" : Str)) = false := by decide) (hcd : (x0 == ("__classdict__" : Str)) = false := by decide)
    (hs : swapsWith (.Call (.Attribute (.Name x0 p0) "extend" apos) [e] [] cpos) none pos.line X.env = pure false := by rfl)
    (hbase : attributeBase (.Name x0 p0) "extend" X.env (eval (.Name x0 p0) X.env) = eval (.Name x0 p0) X.env := by rfl)
    (hfew : ((backTo cpos (starEach [e] X.env)).all (fun x => !x.1) && (backToKw cpos (keywordEach [] X.env)).all (fun x => x.1.isSome) && decide (([e] : List Expr).length + ([] : List Keyword).length + (if ([] : List Keyword).isEmpty then 0 else 1) < 30)) = true := by rfl)
    (hline : (apos.endLine == cpos.line) = true := by rfl) (hst : starEach [e] X.env = (false, eval e X.env) :: starEach [] X.env := by rfl) :
    SD X own (.Expr (.Call (.Attribute (.Name x0 p0) "extend" apos) [e] [] cpos) pos) (fExt i f) :=
  ⟨fun A hK hW => (ps_expr (pe_bm F.plainAttrs_list F.slot_list_extend F.type_list_extend mt_extend (pe_var hN hv hd hcd) (pa_cons (he.run A hK hW) pa_nil hst) hbase hfew hline hst rfl) hs).imp fun E σ H ⟨ρ, s, fl, ρ', s', R, hf, q⟩ => by
    unfold fExt at hf
    cases h1 : f ρ s with
    | none => rw [h1] at hf; cases hf
    | some x =>
      obtain ⟨d, s1⟩ := x
      rw [h1, Option.bind_some] at hf
      split at hf
      case h_2 => cases hf
      rename_i ds es h2 h3
      split at hf
      case isFalse => cases hf
      rename_i hl
      cases hf
      have h3 : d = .list es := h3
      subst h3
      have hio := hW.isown hi
      obtain ⟨p, vs, e1, e2, e3, ns⟩ := own_list R hio h2
      refine ⟨.ref p, e1, .inl ⟨rfl, vs, SqL.of e2⟩, ρ, s, .list es, s1, R, h1, fun v H1 R1 k1 t1 => ?_⟩
      obtain ⟨p', vs1, e1', e2', e3', _⟩ := own_list R1 hio h2
      rw [e1] at e1'
      cases e1'
      obtain ⟨b, ws, rfl, nx, hb, db⟩ := t1.list
      refine ⟨p, b, vs1, ws, rfl, rfl, e2', hb, by rw [e3'.length, db.length]; exact Nat.le_of_lt (lt24 hl), ?_⟩
      obtain ⟨R2, F2⟩ := R1.change (d := .list (ds ++ es)) hio e1 (o := .lst (vs1 ++ ws)) ⟨_, rfl, e3'.append db⟩
      exact q σ _ R2 (k1.fr.trans F2)⟩
/-- l.pop() for its own sake -/
def fPopS (i : Nat) : FS := fun ρ s => match ρ.getD i none with
  | some (.list ds) => if ds = [] then none else some (.nx, ρ.set i (some (.list ds.dropLast)), s)
  | _ => none
theorem denAll_dropLast {K : PySem.W.Frag} {F : Hp} : ∀ {ds : List D} {vs : List V}, DenAll K F vs ds → DenAll K F vs.dropLast ds.dropLast
  | [], _, h => by cases h; exact .nil
  | [_], _, h => by
    cases h with
    | cons _ t => cases t; exact .nil
  | _ :: _ :: _, _, h => by
    cases h with
    | cons h1 t =>
      cases t with
      | cons h2 t2 => exact .cons h1 (denAll_dropLast (.cons h2 t2))
theorem sd_pop (i : Nat) (hi : own.own.contains i = true := by rfl) (hN : X.N[i]? = some x0 := by rfl) (hv : Vis X.env.scope x0 := by first | exact Or.inl rfl | exact Or.inr (Or.inl rfl) | exact Or.inr (Or.inr rfl)) (hd : (x0 == ("__debug__" : Str)) = false := by decide) (hcd : (x0 == ("__classdict__" : Str)) = false := by decide)
    (hs : swapsWith (.Call (.Attribute (.Name x0 p0) "pop" apos) [] [] cpos) none pos.line X.env = pure false := by rfl)
    (hbase : attributeBase (.Name x0 p0) "pop" X.env (eval (.Name x0 p0) X.env) = eval (.Name x0 p0) X.env := by rfl) (hline : (apos.endLine == cpos.line) = true := by rfl) :
    SD X own (.Expr (.Call (.Attribute (.Name x0 p0) "pop" apos) [] [] cpos) pos) (fPopS i) :=
  ⟨fun A hK hW => (ps_expr (pe_bm0 F.plainAttrs_list F.slot_list_pop F.type_list_pop mt_pop (pe_var hN hv hd hcd) hbase hline) hs).imp fun E σ H ⟨ρ, s, fl, ρ', s', R, hf, q⟩ => by
    unfold fPopS at hf
    split at hf
    case h_2 => cases hf
    rename_i ds h2
    split at hf
    case isTrue => cases hf
    rename_i hne
    cases hf
    have hio := hW.isown hi
    obtain ⟨p, vs, e1, e2, e3, ns⟩ := own_list R hio h2
    have hl : vs.length - 1 < vs.length := by
      have := e3.length
      cases ds with
      | nil => exact absurd rfl hne
      | cons d ds => rw [List.length_cons] at this; omega
    refine ⟨.ref p, e1, .inl ⟨rfl, vs, SqL.of e2⟩, p, vs, vs[vs.length - 1], rfl, rfl, e2, List.getElem?_eq_getElem hl, ?_⟩
    obtain ⟨R2, F2⟩ := R.change (d := .list ds.dropLast) hio e1 (o := .lst vs.dropLast) ⟨_, rfl, denAll_dropLast e3⟩
    exact q σ _ R2 F2⟩
/-- l[k] = e -/
def fPutL (i : Nat) (fi fe : FE) : FS := fun ρ s => (fe ρ s).bind fun x => (fi ρ x.2).bind fun y => match ρ.getD i none, y.1 with
  | some (.list ds), .int k => (ixN ds.length k).map fun j => (.nx, ρ.set i (some (.list (ds.set j x.1))), y.2)
  | _, _ => none
theorem sd_putL (i : Nat) {ie : Expr} {fi : FE} (he : PD X own e f) (hie : PD X own ie fi) (hi : own.own.contains i = true := by rfl) (hN : X.N[i]? = some x0 := by rfl) (hv : Vis X.env.scope x0 := by first | exact Or.inl rfl | exact Or.inr (Or.inl rfl) | exact Or.inr (Or.inr rfl)) (hd : (x0 == ("__debug__" : Str)) = false := by decide) (hcd : (x0 == ("__classdict__" : Str)) = false := by decide)
    (ha : ∀ v, assign (.Subscript (.Name x0 p0) ie tpos) X.env v = (do
      let ov ← holding [v] (eval (.Name x0 p0) X.env)
      let iv ← holding [v, ov] (eval ie X.env)
      standAt tpos
      holding [v, ov, iv] (setItem ov iv v)
      release [v, ov, iv] []) := by intro _; rfl)
    (hs : swapsWithSole [.Subscript (.Name x0 p0) ie tpos] e pos.line X.env = pure false := by rfl) (hw : swappedStores [.Subscript (.Name x0 p0) ie tpos] e X.env = pure none := by rfl)
    (h1 : (assignEach [.Subscript (.Name x0 p0) ie tpos] X.env).map (·.2) = [assign (.Subscript (.Name x0 p0) ie tpos) X.env] := by rfl) :
    SD X own (.Assign [.Subscript (.Name x0 p0) ie tpos] e pos) (fPutL i fi f) :=
  ⟨fun A hK hW => (ps_asg (he.run A hK hW) (pg_sub (pe_var hN hv hd hcd) (hie.run A hK hW) set_list ha) hs hw h1).imp fun E σ H ⟨ρ, s, fl, ρ', s', R, hf, q⟩ => by
    unfold fPutL at hf
    cases h1 : f ρ s with
    | none => rw [h1] at hf; cases hf
    | some x =>
      obtain ⟨d, s1⟩ := x
      rw [h1, Option.bind_some] at hf
      cases h2 : fi ρ s1 with
      | none => simp only [h2] at hf; cases hf
      | some y =>
        obtain ⟨kd, s2⟩ := y
        simp only [h2, Option.bind_some] at hf
        split at hf
        case h_2 => cases hf
        rename_i ds k h3
        cases hj : ixN ds.length k with
        | none => rw [hj] at hf; cases hf
        | some j =>
          rw [hj] at hf
          cases hf
          have hio := hW.isown hi
          obtain ⟨p, vs, e1, e2, e3, ns⟩ := own_list R hio h3
          refine ⟨ρ, s, d, s1, R, h1, fun v H1 R1 k1 d1 => ⟨.ref p, e1, ρ, s1, .int k, s', R1, h2, fun u H2 R2 k2 d2 => ?_⟩⟩
          cases d2
          obtain ⟨p', vs1, e1', e2', e3', _⟩ := own_list R2 hio h3
          rw [e1] at e1'
          cases e1'
          refine ⟨p, vs1, k, j, rfl, rfl, e2', by rw [e3'.length]; exact hj, ?_⟩
          obtain ⟨R3, F3⟩ := R2.change (d := .list (ds.set j d)) hio e1 (o := .lst (vs1.set j v)) ⟨_, rfl, e3'.set (d1.mono (R1.sm k2)) j⟩
          exact q σ _ R3 ((k1.trans k2).fr.trans F3)⟩

/-! ### name op= e -/
def fAug (i : Nat) (g : Int → Int → Int) (f : FE) : FS := fun ρ s => match ρ.getD i none with
  | some (.int a) => (f ρ s).bind fun x => match x.1 with
    | .int b => some (.nx, ρ.set i (some (.int (g a b))), x.2)
    | _ => none
  | _ => none
theorem sd_aug (i : Nat) {op : Operator} {g : Int → Int → Int} (ho : PIp X op (ipI g)) (he : PD X own e f) (hw1 : own.own.contains i = false := by rfl) (hw2 : own.fx.contains i = false := by rfl) (hN : X.N.Nodup := by assumption) (hi : X.N[i]? = some x0 := by rfl) (hx : Loc X.env.scope x0 := by first | exact Or.inl rfl | exact Or.inr rfl)
    (hf : X.fn x0 = true ∨ X.env.scope.names.lookup x0 = some .local := by first | exact .inl rfl | exact .inr rfl) : SD X own (.AugAssign (.Name x0 p0) op e pos) (fAug i g f) :=
  ⟨fun A hK hW => (ps_aug hN hi hx (he.run A hK hW) ho hf).imp fun E σ H ⟨ρ, s, fl, ρ', s', R, hf, q⟩ => by
    unfold fAug at hf
    split at hf
    case h_2 => cases hf
    rename_i a h2
    cases h1 : f ρ s with
    | none => rw [h1] at hf; cases hf
    | some x =>
      obtain ⟨d, s1⟩ := x
      rw [h1, Option.bind_some] at hf
      cases d <;> try (cases hf; done)
      rename_i b
      cases hf
      obtain ⟨v, hv, dv⟩ := R.val i _ (getD_some h2) (hW.nown hw1)
      cases dv
      refine ⟨.int a, hv, ρ, s, .int b, s1, R, h1, fun u H1 R1 k1 d1 => ?_⟩
      cases d1
      exact ⟨a, b, rfl, rfl, q _ H1 (R1.set (hW.nown hw1) (hW.nfix hw2) (fun d e => ⟨_, rfl, by rw [← Option.some.inj e]; exact .int _⟩)) (k1.fr.trans (Fr.set (hW.nown hw1) _))⟩⟩
end
end DL
/-! Own dicts whose keys are tuples of ints and texts. -/
namespace DL
open PySem PySem.Spec PyProof.Rows L2 GX

def key1 : D → Option L2.Key
  | .int i => some (.inl i)
  | .str x => some (.inr x)
  | _ => none
def key1s : List D → Option (List L2.Key)
  | [] => some []
  | d :: ds => (key1 d).bind fun k => (key1s ds).map (k :: ·)
def keyOf : D → Option (List L2.Key)
  | .tuple ds => key1s ds
  | _ => none
theorem key1_keyD {d : D} {k : L2.Key} (h : key1 d = some k) : d = keyD k := by
  cases d <;> simp [key1] at h <;> subst h <;> rfl
theorem key1s_keyD : ∀ {ds : List D} {k : List L2.Key}, key1s ds = some k → ds = k.map keyD
  | [], k, h => by cases h; rfl
  | d :: ds, k, h => by
    unfold key1s at h
    cases h1 : key1 d with
    | none => rw [h1] at h; cases h
    | some a =>
      rw [h1, Option.bind_some] at h
      cases h2 : key1s ds with
      | none => rw [h2] at h; cases h
      | some b =>
        rw [h2] at h
        cases h
        rw [List.map_cons, ← key1_keyD h1, ← key1s_keyD h2]
theorem keyOf_tkeyD {d : D} {k : List L2.Key} (h : keyOf d = some k) : d = tkeyD k := by
  cases d <;> simp [keyOf] at h
  rw [key1s_keyD h]
  rfl
theorem key1_of (k : L2.Key) : key1 (keyD k) = some k := by cases k <;> rfl
theorem key1s_of : ∀ k : List L2.Key, key1s (k.map keyD) = some k
  | [] => rfl
  | a :: k => by
    rw [List.map_cons]
    unfold key1s
    rw [key1_of, Option.bind_some, key1s_of k]
    rfl
theorem keyOf_of (k : List L2.Key) : keyOf (tkeyD k) = some k := key1s_of k
theorem den_key1s {K : PySem.W.Frag} {F : Hp} : ∀ {k : List L2.Key} {vs : List V}, DenAll K F vs (k.map keyD) → vs = k.map kV
  | [], _, h => by cases h; rfl
  | a :: k, _, h => by
    rw [List.map_cons] at h
    cases h with
    | cons h1 h2 =>
      rw [den_key1s h2, List.map_cons]
      cases a with
      | inl i => cases h1; rfl
      | inr x => cases h1; rfl
theorem den_key {K : PySem.W.Frag} {F : Hp} {v : V} {k : List L2.Key} (h : Den K F v (tkeyD k)) : ∃ b, v = .ref b ∧ SqT K F b (k.map kV) ∧ (k = [] → PlT K F b) := by
  cases h with
  | tup h1 h2 h3 => exact ⟨_, rfl, by rw [← den_key1s h2]; exact h1, fun z => h3 (by rw [z]; rfl)⟩

/-! ### dicts as data -/
abbrev KV := List (D × D)
def getT (kvs : KV) (k : List L2.Key) : Option D := (kvs.find? fun e => decide (keyOf e.1 = some k)).map (·.2)
def hasT (kvs : KV) (k : List L2.Key) : Bool := (getT kvs k).isSome
def putT (kvs : KV) (k : List L2.Key) (v : D) : KV := if hasT kvs k = true then kvs.map (fun e => if keyOf e.1 = some k then (e.1, v) else e) else kvs ++ [(tkeyD k, v)]
/-- a dict whose keys are ints and texts -/
def marked : KV → Bool
  | (.none, _) :: _ => true
  | _ => false
theorem mark_of {l : List XE} {kvs : KV} (h : kvs.map (·.1) = l.map fun e => tkeyD e.1) : marked kvs = false := by
  cases kvs with
  | nil => rfl
  | cons e r =>
    cases l with
    | nil => cases h
    | cons a l =>
      rw [List.map_cons, List.map_cons] at h
      injection h with h _
      obtain ⟨e1, e2⟩ := e
      have h : e1 = tkeyD a.1 := h
      subst h
      rfl
section
variable {K : PySem.W.Frag} {F : Hp}
inductive XD (K : PySem.W.Frag) (F : Hp) : List XE → KV → Prop
  | nil : XD K F [] []
  | cons {e l v kvs} : Den K F e.2.2 v → XD K F l kvs → XD K F (e :: l) ((tkeyD e.1, v) :: kvs)
theorem XD.of : ∀ {l : List XE} {kvs : KV}, kvs.map (·.1) = l.map (fun e => tkeyD e.1) → DenAll K F (l.map (·.2.2)) (kvs.map (·.2)) → XD K F l kvs
  | [], [], _, _ => .nil
  | [], _ :: _, h, _ => by cases h
  | _ :: _, [], h, _ => by cases h
  | e :: l, (a, b) :: kvs, h, q => by
    rw [List.map_cons, List.map_cons] at h q
    injection h with h1 h2
    have h1 : a = tkeyD e.1 := h1
    subst h1
    cases q with
    | cons q1 q2 => exact .cons q1 (XD.of h2 q2)
theorem XD.keys {l : List XE} {kvs : KV} (h : XD K F l kvs) : kvs.map (·.1) = l.map (fun e => tkeyD e.1) := by
  induction h with
  | nil => rfl
  | cons _ _ ih => rw [List.map_cons, List.map_cons, ih]
theorem XD.vals {l : List XE} {kvs : KV} (h : XD K F l kvs) : DenAll K F (l.map (·.2.2)) (kvs.map (·.2)) := by
  induction h with
  | nil => exact .nil
  | cons h _ ih => exact .cons h ih
theorem XD.mono {F' : Hp} (s : Same F F') {l : List XE} {kvs : KV} (h : XD K F l kvs) : XD K F' l kvs := by
  induction h with
  | nil => exact .nil
  | cons h _ ih => exact .cons (h.mono s) ih
theorem XD.length {l : List XE} {kvs : KV} (h : XD K F l kvs) : l.length = kvs.length := by
  induction h with
  | nil => rfl
  | cons _ _ ih => rw [List.length_cons, List.length_cons, ih]
theorem XD.get {l : List XE} {kvs : KV} (h : XD K F l kvs) (k : List L2.Key) : (getT kvs k = none ∧ valV (px l) k = none) ∨ ∃ d v, getT kvs k = some d ∧ valV (px l) k = some v ∧ Den K F v d := by
  induction h with
  | nil => exact .inl ⟨rfl, rfl⟩
  | @cons e l v kvs hd t ih =>
    show (getT ((tkeyD e.1, v) :: kvs) k = none ∧ valV ((e.1, e.2.2) :: px l) k = none) ∨ ∃ d w, getT ((tkeyD e.1, v) :: kvs) k = some d ∧ valV ((e.1, e.2.2) :: px l) k = some w ∧ Den K F w d
    by_cases q : e.1 = k
    · right
      refine ⟨v, e.2.2, ?_, by rw [valV_pos q], hd⟩
      unfold getT
      rw [List.find?_cons, keyOf_of]
      simp [q]
    · have e1 : getT ((tkeyD e.1, v) :: kvs) k = getT kvs k := by
        unfold getT
        rw [List.find?_cons, keyOf_of]
        simp [q]
      rw [e1, valV_neg q]
      exact ih
theorem XD.has {l : List XE} {kvs : KV} (h : XD K F l kvs) (k : List L2.Key) : hasX l k = hasT kvs k := by
  unfold hasX hasT
  rcases h.get k with ⟨h1, h2⟩ | ⟨d, v, h1, h2, _⟩
  · rw [h1, h2]; rfl
  · rw [h1, h2]; rfl
theorem XD.put {l : List XE} {kvs : KV} (h : XD K F l kvs) (k : List L2.Key) (b : Addr) {v : V} {d : D} (hd : Den K F v d) : XD K F (putX l k b v) (putT kvs k d) := by
  unfold putX putT
  rw [h.has k]
  split
  · rename_i hh
    clear hh
    induction h with
    | nil => exact .nil
    | @cons e l w kvs he t ih =>
      rw [List.map_cons, List.map_cons]
      show XD K F ((if e.1 = k then (e.1, e.2.1, v) else e) :: _) ((if keyOf (tkeyD e.1) = some k then (tkeyD e.1, d) else (tkeyD e.1, w)) :: _)
      rw [keyOf_of]
      by_cases q : e.1 = k
      · rw [if_pos q, if_pos (by rw [q])]
        exact .cons (e := (e.1, e.2.1, v)) hd ih
      · rw [if_neg q, if_neg (fun z => q (Option.some.inj z))]
        exact .cons he ih
  · have app : ∀ {m : List XE} {q : KV}, XD K F m q → XD K F (m ++ [(k, b, v)]) (q ++ [(tkeyD k, d)]) := fun {m q} z => by
      induction z with
      | nil => exact .cons (e := (k, b, v)) hd .nil
      | cons z1 _ ih => exact .cons z1 ih
    exact app h
end
theorem put_keys {K : PySem.W.Frag} {H : Hp} {l : List XE} {k : List L2.Key} {b : Addr} {v : V} (h : KeysIn K H l) (hb : SqT K H b (k.map kV) ∧ (k = [] → PlT K H b)) : KeysIn K H (putX l k b v) := by
  unfold putX
  split
  · intro e he
    obtain ⟨a, ha, rfl⟩ := List.mem_map.mp he
    by_cases q : a.1 = k
    · rw [if_pos q]; exact h a ha
    · rw [if_neg q]; exact h a ha
  · intro e he
    rcases List.mem_append.mp he with z | z
    · exact h e z
    · rw [List.mem_singleton.mp z]; exact hb
theorem put_nodup {l : List XE} {k : List L2.Key} {b : Addr} {v : V} (h : (l.map (·.1)).Nodup) : ((putX l k b v).map (·.1)).Nodup := by
  unfold putX
  split
  · have e : (l.map (fun e => if e.1 = k then (e.1, e.2.1, v) else e)).map (·.1) = l.map (·.1) := by
      rw [List.map_map]
      apply List.map_congr_left
      intro a _
      show (if a.1 = k then (a.1, a.2.1, v) else a).1 = a.1
      split <;> rfl
    rw [e]; exact h
  · rename_i hh
    rw [List.map_append, List.nodup_append]
    refine ⟨h, by simp, fun a ha c hc e => ?_⟩
    rw [show ([(k, b, v)] : List XE).map (·.1) = [k] from rfl, List.mem_singleton] at hc
    subst e hc
    apply hh
    obtain ⟨x, hx, e⟩ := List.mem_map.mp ha
    unfold hasX px
    have : ∀ m : List XE, x ∈ m → (valV (m.map fun e => (e.1, e.2.2)) a).isSome = true := by
      intro m
      induction m with
      | nil => intro z; cases z
      | cons y m ih =>
        intro z
        rw [List.map_cons]
        by_cases q : y.1 = a
        · rw [valV_pos q]; rfl
        · rw [valV_neg q]
          rcases List.mem_cons.mp z with z | z
          · rw [z] at e; exact absurd e q
          · exact ih z
    exact this l hx

section
variable {X : Cx} {A : Act} {ρ : Env} {s : Src} {σ : L2.St} {H : Hp}
/-- a borrowed dict with tuple keys -/
theorem Top.dictX {v : V} {kvs : KV} (hK : A.At X) (t : Top A σ H v (.dict kvs)) (hm : marked kvs = false) : ∃ a l, v = .ref a ∧ IsX X.w X.K H a l ∧ XD A.K (fre A σ H) l kvs ∧ ¬ A.ex a := by
  obtain ⟨a, o, rfl, nx, h1, h2⟩ := (show ∃ a o, v = .ref a ∧ ¬ A.ex a ∧ H a = some o ∧ HasO A.K A.w (fre A σ H) a o (.dict kvs) from t)
  rcases h2 with ⟨l, r, e0, _⟩ | ⟨l, rfl, e1, e2, _, e5⟩
  · subst e0
    cases hm
  · exact ⟨a, l, rfl, ⟨.inl (by rw [← hK.2]; exact h1), by rw [← hK.1]; exact KeysIn.mono e5 fre_same⟩, .of e1 e2, nx⟩
/-- k in d -/
def dInT : D → D → Option D
  | d, .dict kvs => if marked kvs = true then none else (keyOf d).map fun k => .bool (hasT kvs k)
  | _, _ => none
def dNotInT : D → D → Option D
  | d, .dict kvs => if marked kvs = true then none else (keyOf d).map fun k => .bool (!hasT kvs k)
  | _, _ => none
def rXIn (w : World) (K : PySem.W.Frag) (neg : Bool) : R2 := fun y x H Q => ∃ a b l k, x = .ref a ∧ y = .ref b ∧ IsX w K H a l ∧ SqT K H b (k.map kV) ∧ Q (.bl (if neg = true then !hasX l k else hasX l k)) H
theorem op_xin (hu : X.A.units + 1 < cLine) : OpR X (compareOp .In) (rXIn X.w X.K false) := by
  intro pins s σ H y x v u Q I ry rx h
  obtain ⟨a, b, l, k, rfl, rfl, ⟨g1, g2⟩, kb, q⟩ := h
  obtain rfl : u = Value.ref a := rx
  obtain rfl : v = Value.ref b := ry
  exact x_in hu I g1 g2 kb fun s3 I3 => ⟨.bl (hasX l k), H, I3, rfl, q⟩
theorem op_xnotin (hu : X.A.units + 1 < cLine) : OpR X (compareOp .NotIn) (rXIn X.w X.K true) := by
  intro pins s σ H y x v u Q I ry rx h
  obtain ⟨a, b, l, k, rfl, rfl, ⟨g1, g2⟩, kb, q⟩ := h
  obtain rfl : u = Value.ref a := rx
  obtain rfl : v = Value.ref b := ry
  exact x_notIn hu I g1 g2 kb fun s3 I3 => ⟨.bl (!hasX l k), H, I3, rfl, q⟩
theorem Top.keyX {v : V} {d : D} {k : List L2.Key} (hK : A.At X) (t : Top A σ H v d) (hk : keyOf d = some k) : ∃ b, v = .ref b ∧ SqT X.K H b (k.map kV) ∧ (SqT A.K (fre A σ H) b (k.map kV) ∧ (k = [] → PlT A.K (fre A σ H) b)) := by
  have e := keyOf_tkeyD hk
  subst e
  obtain ⟨b, rfl, hb⟩ := den_key (show Den A.K (fre A σ H) v (tkeyD k) from t)
  exact ⟨b, rfl, by rw [← hK.1]; exact Same.seqT fre_same hb.1, hb⟩
theorem bn_xin : BinR X (rXIn X.w X.K false) dInT := fun A ρ s σ H v w d e z Q hk R t1 t2 hz q => by
  unfold dInT at hz
  split at hz
  case h_2 => cases hz
  rename_i kvs
  split at hz
  case isTrue => cases hz
  rename_i hm
  cases h1 : keyOf d with
  | none => rw [h1] at hz; cases hz
  | some k =>
    rw [h1] at hz
    cases hz
    obtain ⟨a, l, rfl, hx, xd, _⟩ := Top.dictX hk t2 (by simpa using hm)
    obtain ⟨b, rfl, kb, _⟩ := Top.keyX hk t1 h1
    exact ⟨a, b, l, k, rfl, rfl, hx, kb, q _ H (Same.refl H) (by rw [if_neg (by decide), xd.has k]; exact .bl _)⟩
theorem bn_xnotin : BinR X (rXIn X.w X.K true) dNotInT := fun A ρ s σ H v w d e z Q hk R t1 t2 hz q => by
  unfold dNotInT at hz
  split at hz
  case h_2 => cases hz
  rename_i kvs
  split at hz
  case isTrue => cases hz
  rename_i hm
  cases h1 : keyOf d with
  | none => rw [h1] at hz; cases hz
  | some k =>
    rw [h1] at hz
    cases hz
    obtain ⟨a, l, rfl, hx, xd, _⟩ := Top.dictX hk t2 (by simpa using hm)
    obtain ⟨b, rfl, kb, _⟩ := Top.keyX hk t1 h1
    exact ⟨a, b, l, k, rfl, rfl, hx, kb, q _ H (Same.refl H) (by rw [if_pos rfl, xd.has k]; exact .bl _)⟩
/-- d[k] -/
def dGetT : D → D → Option D
  | .dict kvs, d => if marked kvs = true then none else (keyOf d).bind fun k => getT kvs k
  | _, _ => none
def rXGet (w : World) (K : PySem.W.Frag) : R2 := fun x y H2 Q => ∃ a b l k v, x = .ref a ∧ y = .ref b ∧ IsX w K H2 a l ∧ SqT K H2 b (k.map kV) ∧ valV (px l) k = some v ∧ Q v H2
theorem bn_xget : BinR X (rXGet X.w X.K) dGetT := fun A ρ s σ H v w d e z Q hk R t1 t2 hz q => by
  unfold dGetT at hz
  split at hz
  case h_2 => cases hz
  rename_i kvs
  split at hz
  case isTrue => cases hz
  rename_i hm
  cases h1 : keyOf e with
  | none => rw [h1] at hz; cases hz
  | some k =>
    rw [h1, Option.bind_some] at hz
    obtain ⟨a, l, rfl, hx, xd, _⟩ := Top.dictX hk t1 (by simpa using hm)
    obtain ⟨b, rfl, kb, _⟩ := Top.keyX hk t2 h1
    rcases xd.get k with ⟨h3, _⟩ | ⟨d', u, h3, h4, h5⟩
    · rw [h3] at hz; cases hz
    · rw [h3] at hz
      cases hz
      exact ⟨a, b, l, k, u, rfl, rfl, hx, kb, h4, q u H (Same.refl H) h5⟩
variable {own : Slots} {e o ie : Expr} {f fa fb fc : FE} {x0 : Str} {p0 apos cpos pos tpos : Pos}
theorem pd_xget (hu : X.A.units + 1 < cLine) (ha : PB X own o fa) (hb : PB X own ie fb) (hs : NoSl ie := by intro _ _; rfl) : PD X own (.Subscript o ie pos) (fB2 dGetT fa fb) :=
  ⟨fun A hk hw => (pe_xget hu (ha.run A hk hw) (hb.run A hk hw) hs).imp fun σ H Q h => tOp_of hk bn_xget σ H Q h⟩
/-- {} -/
theorem pf_xnew : PF X own (.Dict [] [] pos) (fC (.dict [])) :=
  ⟨fun A hk hw => pe_xnew.imp fun σ H Q ⟨ρ, s, d, s', R, hf, q⟩ => by
    cases hf
    intro p hp
    exact q p H _ R (DL.Kp.refl _ _) hp (.inr ⟨[], by rw [hk.2], rfl, .nil, List.nodup_nil, fun _ h => by cases h⟩)⟩
/-- {}, for keys that are ints and texts -/
theorem pf_knew : PF X own (.Dict [] [] pos) (fC (.dict [(.none, .none)])) :=
  ⟨fun A hk hw => pe_dnewK.imp fun σ H Q ⟨ρ, s, d, s', R, hf, q⟩ => by
    cases hf
    intro p hp
    exact q p H _ R (DL.Kp.refl _ _) hp (.inl ⟨[], [], rfl, rfl, rfl, .nil, List.nodup_nil⟩)⟩
/-- d.get(k, x) -/
def fGetT (fa fb fc : FE) : FE := fun ρ s => (fa ρ s).bind fun x => (fb ρ x.2).bind fun y => (fc ρ y.2).bind fun z => match x.1 with
  | .dict kvs => if marked kvs = true then none else (keyOf y.1).map fun k => ((getT kvs k).getD z.1, z.2)
  | _ => none
theorem pd_xget2 (hu : X.A.units + 1 < cLine) (ha : PB X own o fa) (hb : PD X own ie fb) (hc : PD X own e fc) (m : M2 X o "get" apos ie e cpos := by exact ⟨rfl, rfl, rfl, rfl⟩) : PD X own (.Call (.Attribute o "get" apos) [ie, e] [] cpos) (fGetT fa fb fc) :=
  ⟨fun A hk hw => (pe_xget2 hu (ha.run A hk hw) (hb.run A hk hw) (hc.run A hk hw) m).imp fun σ H Q ⟨ρ, s, d, s', R, hf, q⟩ => by
    unfold fGetT at hf
    cases h1 : fa ρ s with
    | none => rw [h1] at hf; cases hf
    | some x =>
      obtain ⟨d1, s1⟩ := x
      rw [h1, Option.bind_some] at hf
      cases h2 : fb ρ s1 with
      | none => simp only [h2] at hf; cases hf
      | some y =>
        obtain ⟨d2, s2⟩ := y
        simp only [h2, Option.bind_some] at hf
        cases h3 : fc ρ s2 with
        | none => simp only [h3] at hf; cases hf
        | some z =>
          obtain ⟨d3, s3⟩ := z
          simp only [h3, Option.bind_some] at hf
          cases d1 with
          | dict kvs =>
            simp only at hf
            split at hf
            case isTrue => cases hf
            rename_i hm
            cases h4 : keyOf d2 with
            | none => rw [h4] at hf; cases hf
            | some k =>
              rw [h4] at hf
              cases hf
              refine ⟨ρ, s, .dict kvs, s1, R, h1, fun u H1 R1 k1 t1 => ?_⟩
              obtain ⟨a, l, rfl, hx, xd, nx⟩ := Top.dictX hk t1 (by simpa using hm)
              refine ⟨a, l, rfl, hx.1, ρ, s1, d2, s2, R1, h2, fun v2 H2 R2 k2 t2 => ⟨ρ, s2, d3, s', R2, h3, fun v3 H3 R3 k3 t3 => ?_⟩⟩
              have t1' := t1.keep R1 (k2.trans k3)
              obtain ⟨a', l', e', hx', xd', _⟩ := Top.dictX hk t1' (by simpa using hm)
              cases e'
              obtain ⟨b, rfl, kb, _⟩ := Top.keyX hk (Top.of (t2.mono (R2.sm k3))) h4
              refine ⟨b, l', k, rfl, hx', kb, q _ H3 R3 ((k1.trans k2).trans k3) ?_⟩
              rcases xd'.get k with ⟨h5, h6⟩ | ⟨d', w, h5, h6, h7⟩
              · rw [h5, h6]; exact t3
              · rw [h5, h6]; exact h7
          | none => cases hf
          | bool _ => cases hf
          | int _ => cases hf
          | str _ => cases hf
          | list _ => cases hf
          | tuple _ => cases hf⟩
/-- d[k] = e -/
def fPutT (i : Nat) (fi fe : FE) : FS := fun ρ s => (fe ρ s).bind fun x => (fi ρ x.2).bind fun y => match ρ.getD i none with
  | some (.dict kvs) => if marked kvs = true then none else if kvs.length < 1000000 then (keyOf y.1).map fun k => (.nx, ρ.set i (some (.dict (putT kvs k x.1))), y.2) else none
  | _ => none
theorem sd_xput (hu : X.A.units + 1 < cLine) (i : Nat) (he : PD X own e f) (hie : PD X own ie fa) (hi : own.own.contains i = true := by rfl) (hN : X.N[i]? = some x0 := by rfl) (hv : Vis X.env.scope x0 := by first | exact Or.inl rfl | exact Or.inr (Or.inl rfl) | exact Or.inr (Or.inr rfl)) (hd : (x0 == ("__debug__" : Str)) = false := by decide) (hcd : (x0 == ("__classdict__" : Str)) = false := by decide)
    (hs : swapsWith e (some (.Subscript (.Name x0 p0) ie tpos)) pos.line X.env = pure false := by rfl) : SD X own (.Assign [.Subscript (.Name x0 p0) ie tpos] e pos) (fPutT i fa f) :=
  ⟨fun A hK hW => (ps_xput hu (pe_var hN hv hd hcd) (hie.run A hK hW) (he.run A hK hW) hs).imp fun E σ H ⟨ρ, s, fl, ρ', s', R, hf, q⟩ => by
    unfold fPutT at hf
    cases h1 : f ρ s with
    | none => rw [h1] at hf; cases hf
    | some x =>
      obtain ⟨d, s1⟩ := x
      rw [h1, Option.bind_some] at hf
      cases h2 : fa ρ s1 with
      | none => simp only [h2] at hf; cases hf
      | some y =>
        obtain ⟨kd, s2⟩ := y
        simp only [h2, Option.bind_some] at hf
        split at hf
        case h_2 => cases hf
        rename_i kvs h3
        split at hf
        case isTrue => cases hf
        rename_i hm
        split at hf
        case isFalse => cases hf
        rename_i hl
        cases h4 : keyOf kd with
        | none => rw [h4] at hf; cases hf
        | some k =>
          rw [h4] at hf
          cases hf
          have hio := hW.isown hi
          refine ⟨ρ, s, d, s1, R, h1, fun v H1 R1 k1 d1 => ?_⟩
          obtain ⟨p, o, e1, e2, e3⟩ := R1.ownv i _ (getD_some h3) hio
          refine ⟨.ref p, e1, ρ, s1, kd, s', R1, h2, fun u H2 R2 k2 d2 => ?_⟩
          obtain ⟨p', o', e1', e2', e3'⟩ := R2.ownv i _ (getD_some h3) hio
          rw [e1] at e1'
          cases e1'
          rcases e3' with ⟨l, r, e0, _⟩ | ⟨l, rfl, z1, z2, z3, z4⟩
          · subst e0; exact absurd rfl hm
          have xd : XD A.K (fre A σ H2) l kvs := .of z1 z2
          obtain ⟨b, rfl, kb, kb2⟩ := Top.keyX hK (Top.of d2) h4
          have xd2 := xd.put k b (d1.mono (R1.sm k2))
          refine ⟨p, b, l, k, rfl, rfl, by rw [← hK.2]; exact e2', by rw [← hK.1]; exact KeysIn.mono z4 fre_same, kb, by rw [xd.length]; exact lt24 hl, ?_⟩
          obtain ⟨R3, F3⟩ := R2.change (d := .dict (putT kvs k d)) hio e1 (o := dxO A.w p (putX l k b v)) (.inr ⟨_, rfl, xd2.keys, xd2.vals, put_nodup z3, put_keys z4 kb2⟩)
          rw [← hK.2]
          exact q σ _ R3 ((k1.trans k2).fr.trans F3)⟩
end
end DL
/-! The context of a generator expression that any, all walks. -/
namespace GX
open PySem PySem.Spec PyProof.Rows L2

/-- its names: the walked thing, its own ones (with their places in N), captured ones -/
structure GenOk (N : List Str) (sc scope : Scope) (own : List (Str × Nat)) : Prop where
  kind : scope.kind = .function
  co : scope.isCoroutine = false
  cell : ∀ y ∈ scope.names, y.2 ≠ .cell
  dot : scope.names.lookup (".0" : Str) = some NameKind.local
  uniq : ∀ y ∈ scope.names, scope.names.lookup y.1 = some y.2
  ix : ∀ p ∈ own, N[p.2]? = some p.1
  free : ∀ y ∈ scope.names, y.2 = .free → sc.names.lookup y.1 = some .cell ∨ sc.names.lookup y.1 = some .free
  own : ∀ y ∈ scope.names, y.2 = .local → y.1 ∈ own.map (·.1) ∨ y.1 ∉ N
def genC (N : List Str) (sc scope : Scope) (own : List (Str × Nat)) : Bool :=
  scope.kind == .function && !scope.isCoroutine && (scope.names.all fun y => y.2 != .cell && scope.names.lookup y.1 == some y.2 && (y.2 != .free || (sc.names.lookup y.1 == some .cell || sc.names.lookup y.1 == some .free)) && (y.2 != .local || ((own.map (·.1)).contains y.1 || !N.contains y.1)))
    && scope.names.lookup (".0" : Str) == some NameKind.local && own.all fun p => N[p.2]? == some p.1
theorem genOk_by {N : List Str} {sc scope : Scope} {own : List (Str × Nat)} (h : genC N sc scope own = true) : GenOk N sc scope own := by
  unfold genC at h
  simp only [Bool.and_eq_true, Bool.or_eq_true, Bool.not_eq_true', bne_iff_ne, ne_eq, beq_iff_eq, List.all_eq_true, List.contains_eq_mem, decide_eq_true_eq] at h
  obtain ⟨⟨⟨⟨h1, h2⟩, h3⟩, h4⟩, h5⟩ := h
  refine { kind := h1, co := h2, cell := fun y hy => (h3 y hy).1.1.1, dot := h4, uniq := fun y hy => (h3 y hy).1.1.2, ix := h5, free := fun y hy e => ?_, own := fun y hy e => ?_ }
  · rcases (h3 y hy).1.2 with q | q
    · exact absurd e q
    · exact q
  · rcases (h3 y hy).2 with q | q
    · exact absurd e q
    · rcases q with q | q
      · exact .inl q
      · exact .inr (by simpa using q)

/-- the context in which it runs -/
abbrev gen (X : Cx) (s : Shared) (H : Hp) (ce : PySem.Env) (fp : List Addr) (pn : List (Addr × Obj)) : Cx :=
  { X with A := X.A.in1.in1.deeper ce, s_0 := s, H_0 := H, env := ce, outer := X.stack, stack := ce :: X.stack, ex := fp, fn := fun _ => false, pn := pn, xe := fun _ _ => False, calm := true }

section
variable {X : Cx} {pins : List (Addr × Obj)} {σ : L2.St} {H : Hp} {s : Shared}
theorem gen_start {scope : Scope} {own : List (Str × Nat)} {fp : List Addr} {code : Value} {m0 : Str → Option Value} {s5 : Shared} {a : Addr} {go : Obj} (I : Inv X pins σ H s) (hd : X.A.handled = none) (ok : GenOk X.N X.env.scope scope own) (hN : X.N.Nodup)
    (hfp : ∀ b ∈ fp, FpOk X pins H b ∧ b < s.heap.objs.size) (hns : s5.heap.Ns s.heap.objs.size m0) (keep : ∀ b o, s.heap.get? b = some o → s5.heap.get? b = some o) (hos : s5.os = s.os) (hb : AllBare s5.gens)
    (ha : s.heap.objs.size < a) (hgo : s5.heap.get? a = some go) (hcell : ∀ v, go.data ≠ .cell v) :
    Inv (gen X s H (genEnv scope (cloFrom X.env.cells scope.names []) s.heap.objs.size code builtinsNs X.env) fp [(a, go)]) [] (wipe σ (own.map (·.2))) H s5 := by
  have caught : ∀ y ∈ scope.names, y.2 = .free → ∃ c, X.env.cells.lookup y.1 = some c := by
    intro y hy e
    rcases ok.free y hy e with k | k
    · exact I.ok.has _ (Or.inl k)
    · exact I.ok.has _ (Or.inr k)
  have old : ∀ {y c}, (cloFrom X.env.cells scope.names []).lookup y = some c → X.env.cells.lookup y = some c ∧ c < s.heap.objs.size := by
    intro y c e
    rcases cloFrom_mem (PySem.mem_of_lookup e) with hm | ⟨h1, rfl⟩
    · cases hm
    · obtain ⟨c, hc⟩ := caught _ h1 rfl
      rw [hc]
      obtain ⟨w, z⟩ := I.cell _ _ hc
      exact ⟨rfl, z.lt⟩
  have look : ∀ {y}, scope.names.lookup y = some .free → ∃ c, (cloFrom X.env.cells scope.names []).lookup y = some c ∧ X.env.cells.lookup y = some c := by
    intro y hl
    obtain ⟨c, e⟩ := mem_lookup (cloFrom_has (cells := X.env.cells) (acc := []) (PySem.mem_of_lookup hl))
    exact ⟨c, e, (old e).1⟩
  have okG : (gen X s H (genEnv scope (cloFrom X.env.cells scope.names []) s.heap.objs.size code builtinsNs X.env) fp [(a, go)]).Ok := by
    refine { mod := I.ok.mod, kind := ok.kind, glob := I.ok.glob, blt := rfl, above := Nat.le_refl _, inj := ?_, has := ?_, cab := ?_, hd := fun _ => hd, frames := Around.frames_deeper I.ok.frames, stk := .inr ⟨rfl, rfl⟩, exf := ?_, bs := I.bs, bsz := Nat.le_trans I.ok.bsz I.sz, noex := ?_, exfs := ?_, funs := I.stack, frf := I.stkFree }
    · intro y z c e1 e2
      exact I.ok.inj y z c (old e1).1 (old e2).1
    · intro y hy
      have hy : scope.names.lookup y = some .cell ∨ scope.names.lookup y = some .free := hy
      rcases hy with e | e
      · exact absurd rfl (ok.cell _ (PySem.mem_of_lookup e))
      · obtain ⟨c, h1, _⟩ := look e
        exact ⟨c, h1⟩
    · intro y c z
      cases (show false = true from z)
    · intro b hb'
      refine ⟨Nat.ne_of_lt (hfp b hb').2, ?_⟩
      intro y c e z
      exact (hfp b hb').1.2.2.2.2.1 y c (old e).1 z
    · intro b o e hb'
      rcases (hfp b hb').1.2.2.2.1 with z | z
      · exact I.ok.noex b o e z
      · exact absurd (Nat.lt_of_lt_of_le (Heap.lt_size e) (Nat.le_trans I.ok.bsz z)) (Nat.lt_irrefl _)
    · intro b hb' z
      rcases List.mem_cons.mp (I.stkSub b z) with z | z
      · exact (hfp b hb').1.2.1 z
      · exact (hfp b hb').1.2.2.1 z
  refine { ok := okG, os := hos, bare := hb, base := Un.kept keep, loc := ⟨m0, hns, ?_⟩, cell := ?_, free := I.hok.fresh (Nat.le_refl _), freeC := ?_, pin := ?_, hok := I.hok.kept keep, len := (by rw [wipe_length]; exact I.len) }
  · intro i y av e1 e2 e3
    obtain ⟨e2, hne⟩ := wipe_some e2
    have e3 : scope.names.lookup y = some .local ∨ scope.names.lookup y = some .cell ∨ scope.names.lookup y = some .free := e3
    have fr : scope.names.lookup y = some .free := by
      rcases e3 with e3 | e3 | e3
      · exfalso
        rcases ok.own _ (PySem.mem_of_lookup e3) rfl with q | q
        · obtain ⟨p, hp, hpy⟩ := List.mem_map.mp q
          have e4 := ok.ix p hp
          have hpy : p.1 = y := hpy
          rw [hpy] at e4
          exact hne (List.mem_map.mpr ⟨p, hp, nodup_ix hN e4 e1⟩)
        · exact q (List.mem_of_getElem? e1)
      · exact absurd rfl (ok.cell _ (PySem.mem_of_lookup e3))
      · exact e3
    have out := ok.free _ (PySem.mem_of_lookup fr) rfl
    obtain ⟨m, hn, hl⟩ := I.loc
    obtain ⟨w, r, q⟩ := hl i y av e1 e2 (out.elim (fun k => .inr (.inl k)) fun k => .inr (.inr k))
    refine ⟨w, r, .inr ⟨.inr fr, ?_⟩⟩
    obtain ⟨c, h1, h2⟩ := look fr
    rcases q with ⟨k, _⟩ | ⟨_, c', e', z⟩
    · have k : X.env.scope.names.lookup y = some .local := k
      rcases out with k' | k' <;> rw [show X.env.scope.names.lookup y = _ from k'] at k <;> cases k
    · rw [h2] at e'
      cases e'
      exact ⟨c, h1, z.keeps keep⟩
  · intro y c e
    obtain ⟨w, z⟩ := I.cell y c (old e).1
    exact ⟨w, z.keeps keep⟩
  · intro y c e
    exact I.freeC y c (old e).1
  · intro p hp
    have hp : p = (a, go) := by simpa using (show p ∈ [(a, go)] ++ ([] : List (Addr × Obj)) from hp)
    subst hp
    refine ⟨hgo, I.hok.fresh (Nat.le_of_lt ha), Nat.ne_of_gt ha, fun z => ?_, hcell⟩
    have z : a ∈ frs X.stack := z
    rcases List.mem_cons.mp (I.stkSub a z) with z | z
    · have := I.lt
      have ha' := ha
      rw [z] at ha'
      exact absurd (Nat.lt_trans this ha') (Nat.lt_irrefl _)
    · exact I.nofs (Nat.le_of_lt ha) z
/-- nothing but the tables of generators and the tokens has changed -/
theorem Inv.same {s' : Shared} (I : Inv X pins σ H s) (hh : s'.heap = s.heap) (ho : s'.os = s.os) (hg : AllBare s'.gens) : Inv X pins σ H s' :=
  I.call' (ch := []) ho (Un.kept fun b o e => by rw [hh]; exact e) (I.hok.kept fun b o e => by rw [hh]; exact e) hg fun b z => by cases z
end
end GX
/-! any, all of a generator expression whose element is any expression. -/
namespace GX
open PySem PySem.Spec PyProof.Rows L2 GenW

section
variable {X : Cx} {pins : List (Addr × Obj)} {σ : L2.St} {Q : VK} {want : Bool} {a : Addr} {g : Nat}
/-- an item is handed out: want ends the walk -/
def YQ (X : Cx) (pins : List (Addr × Obj)) (σ : L2.St) (Q : VK) (want : Bool) (a : Addr) (g : Nat) : Protocol := fun _ _ v s kap =>
  ∃ b H3, v = .bool b ∧ Inv X pins σ H3 s ∧ s.heap.IsGen a g ∧ (b = want → Q (.bl want) H3) ∧ (b ≠ want → ∀ s'' : Shared, s''.heap = s.heap → s''.os = s.os → AllBare s''.gens → kap (.send .none) s'')
/-- nothing more -/
def PQ (X : Cx) (pins : List (Addr × Obj)) (σ : L2.St) (Q : VK) (want : Bool) : Nat → Shared → Shared → Prop := fun _ _ s => ∃ H3, Inv X pins σ H3 s ∧ Q (.bl (!want)) H3
abbrev RQ (X : Cx) (pins : List (Addr × Obj)) (σ : L2.St) (Q : VK) (want : Bool) : GenEnd := fun n s0 r s => r = .ok .next ∧ PQ X pins σ Q want n s0 s

/-! ### the consumer -/
/-- what stands at a turn -/
def Ready (X : Cx) (pins : List (Addr × Obj)) (σ : L2.St) (Q : VK) (want : Bool) (a : Addr) (g n : Nat) (s : Shared) : Prop :=
  s.heap.NoLimit ∧ s.heap.IsGen a g ∧ ∃ gs, s.gens[g]? = some gs ∧ gs.Goes (model X.prog X.w) X.A.in1.in1 (RQ X pins σ Q want) (YQ X pins σ Q want a g) n (.send .none) (s.setGen g .running)
theorem bare_set {s : Shared} {g : Nat} {x : GenState} (h : AllBare s.gens) (hx : x.bare = true) : AllBare (s.setGen g x).gens := by
  intro y hy
  obtain ⟨i, hi, e⟩ := Array.mem_iff_getElem.mp hy
  have hi' : i < s.gens.size := by
    rw [setGen_size s g x] at hi
    exact hi
  by_cases z : g = i
  · subst z
    have q : (s.setGen g x).gens[g]? = some x := by
      show (s.gens.setIfInBounds g x)[g]? = some x
      simp [hi']
    rw [Array.getElem?_eq_getElem hi, e] at q
    cases q
    exact hx
  · have q : (s.setGen g x).gens[i]? = s.gens[i]? := by
      show (s.gens.setIfInBounds g x)[i]? = _
      rw [Array.getElem?_setIfInBounds_ne z]
    rw [Array.getElem?_eq_getElem hi, e] at q
    exact h y (Array.mem_of_getElem? q.symm)
theorem set_at {s : Shared} {g : Nat} {x : GenState} (h : g < s.gens.size) : (s.setGen g x).gens[g]? = some x := by
  show (s.gens.setIfInBounds g x)[g]? = some x
  simp [h]
/-- one call of next -/
theorem next_turn {n : Nat} {s : Shared} {E : Value → Shared → Prop} {Q2 : Option Value → Shared → Prop} (hh : X.A.handled = none) (hroom : X.A.depth < recursionLimit) (h : Ready X pins σ Q want a g n s)
    (h1 : ∀ b s1, (b = want → ∃ H3, Inv X pins σ H3 s1 ∧ Q (.bl want) H3) → (b ≠ want → ∃ m, n = m + 1 ∧ Ready X pins σ Q want a g m s1) → Q2 (some (.bool b)) s1) (h2 : ∀ s1, (∃ H3, Inv X pins σ H3 s1 ∧ Q (.bl (!want)) H3) → Q2 none s1) :
    wpAny (model X.prog X.w) X.A.in1 (pyNext (.ref a)) Q2 E s := by
  obtain ⟨hl, hg, gs, hgs, hgo⟩ := h
  have hgl : g < s.gens.size := (Array.getElem?_eq_some_iff.mp hgs).1
  refine wpAny_gsz (n := g + 1) hgl (wpAny_pyNext_genexpQ (A := X.A.in1) (P := PQ X pins σ Q want) hh hl hroom hg hgs hgo ?_ ?_)
  · intro v s1 gs' hb hy hsz
    obtain ⟨b, H3, rfl, I, hg1, w1, w2⟩ := hy
    have hsz1 : g < s1.gens.size := by
      have : g + 1 ≤ (s1.setGen g gs').gens.size := hsz
      rw [setGen_size] at this
      exact this
    have I2 : Inv X pins σ H3 (s1.setGen g gs') := Inv.same I rfl rfl (bare_set I.bare hb)
    refine h1 b _ (fun e => ⟨H3, I2, w1 e⟩) fun e => ?_
    have k := w2 e ((s1.setGen g gs').setGen g .running) rfl rfl (bare_set (bare_set I.bare hb) rfl)
    cases n with
    | zero => exact False.elim k
    | succ m => exact ⟨m, rfl, I.nolimit, hg1, gs', set_at hsz1, k⟩
  · intro s1 hp h' hk _
    obtain ⟨H3, I, q⟩ := hp
    refine h2 _ ⟨H3, ?_, q⟩
    have I1 : Inv X pins σ H3 (s1.setGen g .finished) := Inv.same I rfl rfl (bare_set I.bare rfl)
    exact I1.kept (t' := s1.toks) hk
theorem any_loopQ {R : Result → Shared → Prop} (hh : X.A.handled = none) (hroom : X.A.depth < recursionLimit) (hR : ∀ b s' H3, Inv X pins σ H3 s' → Q (.bl b) H3 → R (.ok (.ret (.bool b))) s') : ∀ (n : Nat) (s : Shared), Ready X pins σ Q true a g n s →
    codeAny (model X.prog X.w) X.A (.builtin "any.loop" ⟨[.ref a], []⟩) R s := by
  intro n
  induction n with
  | zero =>
    intro s h
    refine codeAny_builtin F.entry_any_loop ?_
    rw [Around.under_plainId F.plain_any_loop _]
    show wpAny _ X.A.in1 (pyNext (.ref a) >>= _) _ _ s
    refine wpAny_bind (next_turn hh hroom h ?_ ?_)
    · intro b s1 w1 w2
      cases b with
      | false => obtain ⟨m, e, _⟩ := w2 (by decide); cases e
      | true =>
        obtain ⟨H3, I, q⟩ := w1 rfl
        refine wpAny_bind (wpAny_holding (wpAny_truthy_bool ?_))
        refine wpAny_bind (wpAny_letGo ?_)
        refine wpAny_bind (wpAny_rule (wpAny_pure ?_))
        exact hR true _ H3 I q
    · intro s1 hp
      obtain ⟨H3, I, q⟩ := hp
      exact wpAny_bind (wpAny_rule (wpAny_pure (hR false _ H3 I q)))
  | succ m ih =>
    intro s h
    refine codeAny_builtin F.entry_any_loop ?_
    rw [Around.under_plainId F.plain_any_loop _]
    show wpAny _ X.A.in1 (pyNext (.ref a) >>= _) _ _ s
    refine wpAny_bind (next_turn hh hroom h ?_ ?_)
    · intro b s1 w1 w2
      refine wpAny_bind (wpAny_holding (wpAny_truthy_bool ?_))
      refine wpAny_bind (wpAny_letGo ?_)
      cases b with
      | false =>
        obtain ⟨k, e, r⟩ := w2 (by decide)
        cases e
        exact wpAny_pure ⟨plainId_quiet F.plain_any_loop _, ih s1 r⟩
      | true =>
        obtain ⟨H3, I, q⟩ := w1 rfl
        exact wpAny_bind (wpAny_rule (wpAny_pure (hR true _ H3 I q)))
    · intro s1 hp
      obtain ⟨H3, I, q⟩ := hp
      exact wpAny_bind (wpAny_rule (wpAny_pure (hR false _ H3 I q)))
theorem all_loopQ {R : Result → Shared → Prop} (hh : X.A.handled = none) (hroom : X.A.depth < recursionLimit) (hR : ∀ b s' H3, Inv X pins σ H3 s' → Q (.bl b) H3 → R (.ok (.ret (.bool b))) s') : ∀ (n : Nat) (s : Shared), Ready X pins σ Q false a g n s →
    codeAny (model X.prog X.w) X.A (.builtin "all.loop" ⟨[.ref a], []⟩) R s := by
  intro n
  induction n with
  | zero =>
    intro s h
    refine codeAny_builtin F.entry_all_loop ?_
    rw [Around.under_plainId F.plain_all_loop _]
    show wpAny _ X.A.in1 (pyNext (.ref a) >>= _) _ _ s
    refine wpAny_bind (next_turn hh hroom h ?_ ?_)
    · intro b s1 w1 w2
      cases b with
      | true => obtain ⟨m, e, _⟩ := w2 (by decide); cases e
      | false =>
        obtain ⟨H3, I, q⟩ := w1 rfl
        refine wpAny_bind (wpAny_holding (wpAny_truthy_bool ?_))
        refine wpAny_bind (wpAny_letGo ?_)
        refine wpAny_bind (wpAny_rule (wpAny_pure ?_))
        exact hR false _ H3 I q
    · intro s1 hp
      obtain ⟨H3, I, q⟩ := hp
      exact wpAny_bind (wpAny_rule (wpAny_pure (hR true _ H3 I q)))
  | succ m ih =>
    intro s h
    refine codeAny_builtin F.entry_all_loop ?_
    rw [Around.under_plainId F.plain_all_loop _]
    show wpAny _ X.A.in1 (pyNext (.ref a) >>= _) _ _ s
    refine wpAny_bind (next_turn hh hroom h ?_ ?_)
    · intro b s1 w1 w2
      refine wpAny_bind (wpAny_holding (wpAny_truthy_bool ?_))
      refine wpAny_bind (wpAny_letGo ?_)
      cases b with
      | true =>
        obtain ⟨k, e, r⟩ := w2 (by decide)
        cases e
        exact wpAny_pure ⟨plainId_quiet F.plain_all_loop _, ih s1 r⟩
      | false =>
        obtain ⟨H3, I, q⟩ := w1 rfl
        exact wpAny_bind (wpAny_rule (wpAny_pure (hR false _ H3 I q)))
    · intro s1 hp
      obtain ⟨H3, I, q⟩ := hp
      exact wpAny_bind (wpAny_rule (wpAny_pure (hR true _ H3 I q)))
end
end GX
/-! .. its body, its making, the rules. -/
namespace GX
open PySem PySem.Spec PyProof.Rows L2 GenW

/-- any(elt for tg in iter), all(..): W by the turn and a measure, Nx what a turn is to reach; first the table may grow -/
def tQ (P : Addr) (want : Bool) (wi : TI) (g : TG) (te : TE) (vs : List Nat) : TE := fun σ H Q => wi σ H fun J H1 => GxR.TabG H1 P ∧ ∀ H2, GxR.Tabbed P H1 H2 → ∃ W : Nat → Nat → Hp → Prop, (∃ m, W 0 m H2) ∧ ∀ i m H, W i m H →
  (J.stop i H ∧ Q (.bl (!want)) H) ∨ (J.go i H ∧ ∃ Nx : Hp → Prop, (∀ H', Nx H' → ∃ m', m' < m ∧ W (i + 1) m' H') ∧ ∀ x H', J.yld i H x H' → g x (wipe σ vs) H' fun σ2 H2 => wipe σ2 vs = wipe σ vs ∧ te σ2 H2 fun y H3 =>
    ∃ b, y = .bl b ∧ (b = want → Q (.bl want) H3) ∧ (b ≠ want → Nx H3))

section
variable {X : Cx} {pins : List (Addr × Obj)} {σ : L2.St} {Q : VK} {want : Bool} {elt tg iter : Expr} {scope : Scope} {own : List (Str × Nat)} {gpos : Pos} {gt : TG} {te : TE}
theorem gen_loop {s4 : Shared} {H4 : Hp} {ce : PySem.Env} {fp : List Addr} {a it : Addr} {go : Obj} {g : Nat} {J : It} {tn : Nat → Heap → Prop} {W : Nat → Nat → Hp → Prop} (I4 : Inv X pins σ H4 s4) (f4 : ∀ b ∈ fp, FpOk X pins H4 b ∧ b < s4.heap.objs.size) (T : Turn X.prog X.w X.K tg J fp it tn)
    (hgo : ∀ h : Heap, h.get? a = some go → h.IsGen a g) (ha : s4.heap.objs.size ≤ a) (hco : ce.scope.isCoroutine = false) (pg : PG (gen X s4 H4 ce fp [(a, go)]) tg gt) (pe : PE (gen X s4 H4 ce fp [(a, go)]) elt te)
    (turn : ∀ i m H, W i m H → (J.stop i H ∧ Q (.bl (!want)) H) ∨ (J.go i H ∧ ∃ Nx : Hp → Prop, (∀ H', Nx H' → ∃ m', m' < m ∧ W (i + 1) m' H') ∧ ∀ x H', J.yld i H x H' → gt x (wipe σ (own.map (·.2))) H' fun σ2 H2 => wipe σ2 (own.map (·.2)) = wipe σ (own.map (·.2)) ∧ te σ2 H2 fun y H3 =>
      ∃ b, y = .bl b ∧ (b = want → Q (.bl want) H3) ∧ (b ≠ want → Nx H3))) :
    ∀ (n m i : Nat) (s0 s : Shared) (H5 : Hp), m < n → Inv (gen X s4 H4 ce fp [(a, go)]) [] (wipe σ (own.map (·.2))) H5 s → tn i s.heap → (∀ b ∈ fp, H5 b = none) → W i m H5 →
      Seg (model X.prog X.w) X.A.in1.in1 (RQ X pins σ Q want) (YQ X pins σ Q want a g) n s0 (.compLoop (.GeneratorExp elt [⟨tg, iter, [], 0⟩] scope gpos) 0 (.ref it) .none ce)
        ((model X.prog X.w).den (.compLoop (.GeneratorExp elt [⟨tg, iter, [], 0⟩] scope gpos) 0 (.ref it) .none ce)) [] s := by
  have back : ∀ {σ' : L2.St} {H' : Hp} {s' : Shared} {ps : List (Addr × Obj)}, Inv (gen X s4 H4 ce fp [(a, go)]) ps σ' H' s' → Inv X pins σ H' s' := fun {σ' H' s' ps} I' =>
    I4.call' (ch := fp) I'.os I'.base I'.hok I'.bare fun b hb => ⟨(f4 b hb).1.2.2.2.1, (f4 b hb).1.2.1, (f4 b hb).1.2.2.2.2.1, (f4 b hb).1.2.2.2.2.2⟩
  have isG : ∀ {σ' : L2.St} {H' : Hp} {s' : Shared} {ps : List (Addr × Obj)}, Inv (gen X s4 H4 ce fp [(a, go)]) ps σ' H' s' → s'.heap.IsGen a g := fun {σ' H' s' ps} I' => hgo _ (I'.pin (a, go) (List.mem_append_left _ (List.mem_singleton.mpr rfl))).1
  have stat : ∀ {σ' : L2.St} {H' : Hp} {s' : Shared}, Inv (gen X s4 H4 ce fp [(a, go)]) [] σ' H' s' → (∀ b ∈ fp, H' b = none) → ∀ b ∈ fp, FpOk (gen X s4 H4 ce fp [(a, go)]) [] H' b := fun {σ' H' s'} I' hn b hb => by
    refine ⟨hn b hb, (I'.ok.exf b hb).1, I'.ok.exfs b hb, .inl hb, fun x c e => (I'.ok.exf b hb).2 x c e, ?_⟩
    intro p hp
    have hp : p = (a, go) := by simpa using (show p ∈ [(a, go)] ++ ([] : List (Addr × Obj)) from hp)
    subst hp
    exact Nat.ne_of_gt (Nat.lt_of_lt_of_le (f4 b hb).2 ha)
  have hA : X.A.in1.in1.over (.compLoop (.GeneratorExp elt [⟨tg, iter, [], 0⟩] scope gpos) 0 (.ref it) .none ce) [] = X.A.in1.in1.deeper ce := by
    obtain ⟨hd, d, fr, gs, u⟩ := X.A
    rfl
  intro n
  induction n with
  | zero => intro m i s0 s H5 h; exact absurd h (Nat.not_lt_zero _)
  | succ n ih =>
    intro m i s0 s H5 hm I5 st n5 w5
    show Seg _ _ _ _ _ s0 _ ((compTurn (.GeneratorExp elt [⟨tg, iter, [], 0⟩] scope gpos) 0 (.ref it) .none ce).onRaise (leaving ce)) [] s
    rw [compTurn_gen, Sem.onRaise_eq_wrap]
    refine seg_bind_wrap (wpAny_standAt ?_)
    rcases turn i m H5 w5 with ⟨stop, qq⟩ | ⟨go', Nx, hNx, step⟩
    · have td := T.done (gen X s4 H4 ce fp [(a, go)]) rfl rfl rfl rfl i [] s _ H5 (fun _ _ => False) I5 (stat I5 n5) st stop
      refine seg_bind_wrap ?_
      rw [hA]
      refine thnF td ?_
      rintro r s6 ⟨hr, I6⟩
      subst hr
      exact seg_end (.ok .next) ⟨rfl, H5, back I6, qq⟩
    · have ti := T.item (gen X s4 H4 ce fp [(a, go)]) rfl rfl rfl rfl i [] s _ H5 (fun _ _ => False) I5 (stat I5 n5) st go'
      refine seg_bind_wrap ?_
      rw [hA]
      refine thnF ti ?_
      rintro r s6 ⟨u, hr, h6⟩
      subst hr
      refine seg_bind_wrap ?_
      rw [hA]
      refine thnF h6 ?_
      rintro _ s7 ⟨x, H7, I7, r7, y7, st7, n7⟩
      have I7p := I7.pinned (stat I7 n7) (T.obj _ _ st7)
      refine seg_bind_wrap ?_
      rw [hA]
      refine thnF (pg.run _ s7 _ H7 x u _ I7p r7 (step x H7 y7)) ?_
      rintro _ s8 ⟨σ8, H8, I8, hw8, q8⟩
      refine seg_bind_wrap ?_
      rw [List.forIn_nil]
      refine wpAny_pure ?_
      simp only [if_true]
      have hy : ∀ v, yieldOut ce v = yieldValue v := fun v => by simp only [yieldOut, hco, Bool.false_eq_true, if_false]
      simp only [hy]
      rw [Sem.bind_eq_wrap', Sem.bind_eq_wrap', Sem.wrap_wrap, Sem.wrap_wrap]
      refine seg_wrap ?_
      rw [hA]
      refine thnF (pe.run _ s8 σ8 H8 _ I8 q8) ?_
      rintro yv s9 ⟨yb, H9, I9, r9, b, rfl, w1, w2⟩
      obtain rfl : yv = Value.bool b := r9
      refine seg_at (seg_yield rfl rfl rfl ⟨b, H9, rfl, back I9, isG I9, w1, ?_⟩)
      intro e s'' hh ho hg
      obtain ⟨m', hm', w'⟩ := hNx H9 (w2 e)
      have J9 := Inv.same I9 hh ho hg
      have pin' : ∀ b ∈ fp, ∀ o, s7.heap.get? b = some o → s''.heap.get? b = some o ∧ H9 b = none := fun b hb o e =>
        let z := J9.pin (b, o) (List.mem_append_right _ (List.mem_append_right _ (mem_pinsAt hb e)))
        ⟨z.1, z.2.1⟩
      have hl : (wipe σ (own.map (·.2))).length = σ8.length := by rw [← hw8, wipe_length]
      refine seg_again rfl (ih m' (i + 1) s'' s'' H9 (Nat.lt_of_lt_of_le hm' (Nat.le_of_lt_succ hm)) ?_ ?_ ?_ w')
      · refine (J9.unpinned (pins := [])).weak hl ?_
        intro j v e
        rw [← hw8] at e
        exact (wipe_some e).1
      · exact T.keep _ _ _ st7 fun b hb o e => (pin' b hb o e).1
      · intro b hb
        obtain ⟨o, e, _⟩ := T.obj _ _ st7 b hb
        exact (pin' b hb o e).2
end
end GX
/-! .. made, then walked. -/
namespace GX
open PySem PySem.Spec PyProof.Rows L2 GenW
section
variable {X : Cx} {pins : List (Addr × Obj)} {σ : L2.St} {Q : VK} {want : Bool} {elt tg iter : Expr} {scope : Scope} {own : List (Str × Nat)} {gpos : Pos} {gt : TG} {te : TE} {wi : TI} {c P : Addr} {k : Nat}
/-- the generator stands ready in the state s5 -/
theorem gen_make {H : Hp} {s : Shared} {Q' : Value → Shared → Prop} (hc : X.calm = true) (hr : Room (k + 3) X.A) (hN : X.N.Nodup) (TB : GxR.TabB X.base X.mg c P) (hcode : X.env.code = .ref c) (hi : PI X tg iter wi) (ok : GenOk X.N X.env.scope scope own)
    (hg : ∀ (s : Shared) (H : Hp) (ce : PySem.Env) (fp : List Addr) (pn : List (Addr × Obj)), ce.scope = scope → PG (gen X s H ce fp pn) tg gt) (he : ∀ (s : Shared) (H : Hp) (code : Value) (fp : List Addr) (pn : List (Addr × Obj)) (C : Addr), PE (gen X s H (genEnv scope (cloFrom X.env.cells scope.names []) C code builtinsNs X.env) fp pn) elt te)
    (hs : ∀ v, genFold iter X.env v = pure v) (I : Inv X pins σ H s) (h : tQ P want wi gt te (own.map (·.2)) σ H Q) (hQ : ∀ a g n s5, Ready X pins σ Q want a g n s5 → Q' (.ref a) s5) :
    wpAny (model X.prog X.w) X.A (eval (.GeneratorExp elt [⟨tg, iter, [], 0⟩] scope gpos) X.env) Q' X.xe s := by
  have hd : X.A.handled = none := hr.hd
  have caught : ∀ y ∈ scope.names, y.2 = .free → ∃ c, X.env.cells.lookup y.1 = some c := by
    intro y hy e
    rcases ok.free y hy e with q | q
    · exact I.ok.has _ (Or.inl q)
    · exact I.ok.has _ (Or.inr q)
  refine wpAny_GeneratorExp_make ok.co (closure_ok caught) ok.cell ok.dot ok.kind (by have := hr.dp; omega) ?_ hs
  refine thn (hi.run pins s σ H _ I h) ?_
  intro xv s1 hx
  refine thn hx ?_
  rintro itv s2 ⟨it, fp, tn, J, H2, rfl, I2, T, st2, f2, ⟨ps, hP, ht⟩, q⟩
  have hPs : s2.heap.get? P = some { cls := .none, data := .fields ps } := I2.hok P _ hP
  have cd : PySem.W.CodeHd s2.heap c P := TB.code.keeps fun b u e => I2.bk b u e
  have sz : ∀ b ∈ fp, b < s2.heap.objs.size := fun b hb => by
    obtain ⟨o, e, _⟩ := T.obj _ _ st2 b hb
    exact Heap.lt_size e
  have fpP : ∀ b ∈ fp, b ≠ P := fun b hb z => by
    have := (f2 b hb).1
    rw [z, hP] at this
    cases this
  have cont : ∀ (code : Value) (h3 : Heap) (tk : Nat) (ps' : Array Value), Heap.ExtBut P s2.heap h3 → s2.heap.objs.size ≤ h3.objs.size → h3.get? P = some { cls := .none, data := .fields ps' } → (∃ more, ps' = ps ++ more) → TriplesOk ps'.toList →
      wpAny (model X.prog X.w) X.A (builtinsFor X.env.globals X.env.builtins) (fun bi s4 => ∀ h', h'.Ns s4.heap.objs.size (fun y => if y = ".0" then some (.ref it) else none) → Heap.SameBut s4.heap.objs.size (s4.heap.push { cls := .type "frame", data := .dict #[] }) h' →
          Q' (.ref h'.objs.size) { s4 with
            gens := s4.gens.push (.fresh (.compStart (.GeneratorExp elt [⟨tg, iter, [], 0⟩] scope gpos) 0 (.ref it) .none (genEnv scope (cloFrom X.env.cells scope.names []) s4.heap.objs.size code bi X.env))),
            toks := s4.toks + 1 + 1 + 1,
            heap := h'.push { cls := .type "generator", data := .fields #[.int s4.gens.size 0, .str "<genexpr>" (s4.toks + 1), .str (X.env.qual ++ "<genexpr>") (s4.toks + 1 + 1)] } }) X.xe { s2 with heap := h3, toks := tk } := by
    intro code h3 tk ps' hx hsz hP3 hmore ht3
    obtain ⟨bm, ob, e1, e2, e3, e4, e5, e6, e7, e8⟩ := TB.bm
    have keep3 : ∀ b u, b ≠ P → s2.heap.get? b = some u → h3.get? b = some u := fun b u hb e => hx b u hb e
    refine wpAny_builtinsFor (m := X.mg) (by rw [I2.ok.glob]; exact (I2.mod.glob.keeps I2.bk).extBut hx TB.gP) e1 e2 (keep3 _ _ e4 (I2.bk _ _ e5)) e6 e7 e8 ?_
    intro h' hn' hs'
    obtain ⟨more, em⟩ := hmore
    -- the state with the grown table
    have I3 : Inv X pins σ (upd H2 P (.tbl (ps ++ more))) { s2 with heap := h3, toks := tk } := GxR.inv_tab (g' := s2.gens) (d' := s2.drawn) I2 hP (fun b o hb e => keep3 b o hb e) (by rw [← em]; exact hP3) I2.bare
    generalize hH3 : upd H2 P (.tbl (ps ++ more)) = H3 at I3
    have tabbed : GxR.Tabbed P H2 H3 := by
      rw [← hH3]
      exact ⟨⟨ps ++ more, upd_same, by rw [← em]; exact ht3⟩, fun b hb => upd_ne hb⟩
    obtain ⟨W, ⟨m0, w0⟩, turn⟩ := q H3 tabbed
    have f3 : ∀ b ∈ fp, FpOk X pins H3 b ∧ b < h3.objs.size := fun b hb => by
      refine ⟨⟨?_, (f2 b hb).2⟩, Nat.lt_of_lt_of_le (sz b hb) hsz⟩
      rw [tabbed.2 b (fpP b hb)]
      exact (f2 b hb).1
    have st3 : tn 0 h3 := T.keep _ _ _ st2 fun b hb o e => keep3 b o (fpP b hb) e
    generalize hs3 : ({ s2 with heap := h3, toks := tk } : Shared) = s3 at I3 hn' hs' ⊢
    have eh3 : s3.heap = h3 := by rw [← hs3]
    have hsz' : h'.objs.size = s3.heap.objs.size + 1 := by rw [hs'.1, Heap.size_push]
    have keep' : ∀ b o, s3.heap.get? b = some o → h'.get? b = some o := fun b o e => hs'.extBut b o (Nat.ne_of_lt (Heap.lt_size e)) (Heap.get?_push_of_some _ e)
    have main : ∀ go : Obj, go.cls = .type "generator" → (∃ nm qn, go.data = .fields #[.int s3.gens.size 0, nm, qn]) → go.slots = #[] → (∀ h : Heap, (h.push go).get? h.objs.size = some go) →
        Ready X pins σ Q want h'.objs.size s3.gens.size (m0 + 1) { s3 with gens := s3.gens.push (.fresh (.compStart (.GeneratorExp elt [⟨tg, iter, [], 0⟩] scope gpos) 0 (.ref it) .none (genEnv scope (cloFrom X.env.cells scope.names []) s3.heap.objs.size code builtinsNs X.env))), toks := s3.toks + 1 + 1 + 1, heap := h'.push go } := by
      intro go hgc hgd hgs hgp
      have keep5 : ∀ b o, s3.heap.get? b = some o → (h'.push go).get? b = some o := fun b o e => Heap.get?_push_of_some _ (keep' b o e)
      have isG : ∀ h : Heap, h.get? h'.objs.size = some go → h.IsGen h'.objs.size s3.gens.size := fun h e => by
        obtain ⟨nm, qn, hd⟩ := hgd
        exact ⟨go, nm, qn, e, hgc, hd, hgs⟩
      refine ⟨I3.nolimit.keeps keep5, isG _ (hgp h'), _, Array.getElem?_push_size .., rfl, ?_⟩
      -- the walk's context
      have ncell : ∀ v, go.data ≠ .cell v := fun v z => by
        obtain ⟨nm, qn, hd⟩ := hgd
        rw [hd] at z
        cases z
      have lt : s3.heap.objs.size < h'.objs.size := by omega
      have I5 := gen_start (code := code) (s5 := ({ s3 with gens := s3.gens.push (.fresh (.compStart (.GeneratorExp elt [⟨tg, iter, [], 0⟩] scope gpos) 0 (.ref it) .none (genEnv scope (cloFrom X.env.cells scope.names []) s3.heap.objs.size code builtinsNs X.env))), toks := s3.toks + 1 + 1 + 1, heap := h'.push go } : Shared).setGen s3.gens.size .running)
        I3 hd ok hN (by rw [eh3]; exact f3) (hn'.push go) keep5 rfl (bare_set (AllBare.push I3.bare rfl) rfl) lt (hgp h') ncell
      have loop := gen_loop (Q := Q) (want := want) (iter := iter) (scope := scope) (gpos := gpos) (own := own) (a := h'.objs.size) (go := go) (g := s3.gens.size) I3 (by rw [eh3]; exact f3) T (fun h e => isG h e) (Nat.le_of_lt lt) ok.co (hg _ _ _ _ _ rfl) (he _ _ _ _ _ _) turn
        (m0 + 1) m0 0 (({ s3 with gens := s3.gens.push (.fresh (.compStart (.GeneratorExp elt [⟨tg, iter, [], 0⟩] scope gpos) 0 (.ref it) .none (genEnv scope (cloFrom X.env.cells scope.names []) s3.heap.objs.size code builtinsNs X.env))), toks := s3.toks + 1 + 1 + 1, heap := h'.push go } : Shared).setGen s3.gens.size .running) _ H3 (Nat.lt_succ_self _) I5
        (T.keep _ _ _ st3 fun b _ o e => keep5 b o (by rw [eh3]; exact e)) (fun b hb => (f3 b hb).1.1) w0
      show Seg _ _ _ _ _ _ _ ((compStart (.GeneratorExp elt [⟨tg, iter, [], 0⟩] scope gpos) 0 (.ref it) .none _).onRaise (leaving _)) [] _
      unfold compStart
      rw [Sem.onRaise_eq_wrap]
      show Seg _ _ _ _ _ _ _ ((ask >>= _).wrap _ _ _ _) [] _
      refine seg_bind_wrap (wpAny_askSetting ?_)
      split
      · exact seg_again rfl loop
      · refine seg_bind_wrap (wpAny_rule (seg_bind_wrap (wpAny_standAt (seg_bind_wrap ?_))))
        exact T.self _ 0 _ _ _ (T.keep _ _ _ st3 fun b _ o e => keep5 b o (by rw [eh3]; exact e)) (seg_again rfl loop)
    exact hQ _ _ _ _ (main _ rfl ⟨_, _, rfl⟩ rfl fun h => Heap.get?_push_size _ rfl)
  refine ⟨I2.nolimit, ?_⟩
  cases hf : codeAmong gpos ps.toList with
  | none =>
    refine wpAny_genexprCodeX hcode (cd.code hPs ht) (cd.tab hPs) hf ?_
    intro c' h' tk hx hge hlt hco' _ htab' _
    obtain ⟨o1, vs, f1, tf, fl, tg', inF, tx, tt, op, _, _, _, _, _, _, _, _, _, htr, _⟩ := hco'
    exact cont _ h' tk _ hx (Nat.le_trans hge (Nat.le_of_lt hlt)) htab'.2 ⟨_, rfl⟩ htr
  | some cv =>
    refine wpAny_genexprCode_hit hcode (cd.code hPs ht) hf ?_
    exact cont cv s2.heap s2.toks ps (Heap.ExtBut.refl _ _) (Nat.le_refl _) hPs ⟨#[], by simp⟩ ht
variable {p pos : Pos}
theorem pe_anyQ (hc : X.calm = true) (hr : Room (k + 3) X.A) (hN : X.N.Nodup) (hgl : Gl X "any") (hm : X.mg "any" = none) (TB : GxR.TabB X.base X.mg c P) (hcode : X.env.code = .ref c) (hi : PI X tg iter wi) (ok : GenOk X.N X.env.scope scope own)
    (hg : ∀ (s : Shared) (H : Hp) (ce : PySem.Env) (fp : List Addr) (pn : List (Addr × Obj)), ce.scope = scope → PG (gen X s H ce fp pn) tg gt) (he : ∀ (s : Shared) (H : Hp) (code : Value) (fp : List Addr) (pn : List (Addr × Obj)) (C : Addr), PE (gen X s H (genEnv scope (cloFrom X.env.cells scope.names []) C code builtinsNs X.env) fp pn) elt te)
    (hs : ∀ v, genFold iter X.env v = pure v) (hst : starEach [.GeneratorExp elt [⟨tg, iter, [], 0⟩] scope gpos] X.env = (false, eval (.GeneratorExp elt [⟨tg, iter, [], 0⟩] scope gpos) X.env) :: starEach [] X.env := by rfl) :
    PE X (.Call (.Name "any" p) [.GeneratorExp elt [⟨tg, iter, [], 0⟩] scope gpos] [] pos) (tQ P true wi gt te (own.map (·.2))) := by
  constructor
  intro pins s σ H Q I h
  refine wpAny_Call_Name_kw (ld_blt I hgl hm boot_any ?_)
  refine PyProof.Rows.callWith_builtin1 ?_ hst (by rfl)
  rw [hst]
  show wpAny _ _ (spliced ((false, eval (.GeneratorExp elt [⟨tg, iter, [], 0⟩] scope gpos) X.env) :: backTo pos (starEach [] X.env))) _ _ s
  refine Calls.spliced_cons (gen_make hc hr hN TB hcode hi ok hg he hs I h ?_)
  intro a g n s5 rdy
  refine Calls.spliced_nil ?_
  refine call_function_tree F.kind_any F.plain_any F.entry_any (F.args_any1 _) ?_
  unfold Builtin.«any»
  refine wpAny_bind (m := oneArg "any" _) (wpAny_pure ?_)
  refine wpAny_bind (wpAny_pyIter_gen rdy.2.1 ?_)
  refine wpAny_pure ⟨plainId_quiet F.plain_any_loop _, any_loopQ hr.hd (by have := hr.dp; omega) ?_ n s5 rdy⟩
  intro b s' H3 I3 q
  exact ⟨.bl b, H3, I3, rfl, q⟩
theorem pe_allQ (hc : X.calm = true) (hr : Room (k + 3) X.A) (hN : X.N.Nodup) (hgl : Gl X "all") (hm : X.mg "all" = none) (hb : bootBuiltins "all" = some (.builtin "all")) (TB : GxR.TabB X.base X.mg c P) (hcode : X.env.code = .ref c) (hi : PI X tg iter wi) (ok : GenOk X.N X.env.scope scope own)
    (hg : ∀ (s : Shared) (H : Hp) (ce : PySem.Env) (fp : List Addr) (pn : List (Addr × Obj)), ce.scope = scope → PG (gen X s H ce fp pn) tg gt) (he : ∀ (s : Shared) (H : Hp) (code : Value) (fp : List Addr) (pn : List (Addr × Obj)) (C : Addr), PE (gen X s H (genEnv scope (cloFrom X.env.cells scope.names []) C code builtinsNs X.env) fp pn) elt te)
    (hs : ∀ v, genFold iter X.env v = pure v) (hst : starEach [.GeneratorExp elt [⟨tg, iter, [], 0⟩] scope gpos] X.env = (false, eval (.GeneratorExp elt [⟨tg, iter, [], 0⟩] scope gpos) X.env) :: starEach [] X.env := by rfl) :
    PE X (.Call (.Name "all" p) [.GeneratorExp elt [⟨tg, iter, [], 0⟩] scope gpos] [] pos) (tQ P false wi gt te (own.map (·.2))) := by
  constructor
  intro pins s σ H Q I h
  refine wpAny_Call_Name_kw (ld_blt I hgl hm hb ?_)
  refine PyProof.Rows.callWith_builtin1 ?_ hst (by rfl)
  rw [hst]
  show wpAny _ _ (spliced ((false, eval (.GeneratorExp elt [⟨tg, iter, [], 0⟩] scope gpos) X.env) :: backTo pos (starEach [] X.env))) _ _ s
  refine Calls.spliced_cons (gen_make hc hr hN TB hcode hi ok hg he hs I h ?_)
  intro a g n s5 rdy
  refine Calls.spliced_nil ?_
  refine call_function_tree F.kind_all F.plain_all F.entry_all (F.args_all1 _) ?_
  unfold Builtin.«all»
  refine wpAny_bind (m := oneArg "all" _) (wpAny_pure ?_)
  refine wpAny_bind (wpAny_pyIter_gen rdy.2.1 ?_)
  refine wpAny_pure ⟨plainId_quiet F.plain_all_loop _, all_loopQ hr.hd (by have := hr.dp; omega) ?_ n s5 rdy⟩
  intro b s' H3 I3 q
  exact ⟨.bl b, H3, I3, rfl, q⟩
end
end GX
/-! any, all of generator expressions over data; repr. -/
namespace DL
open PySem PySem.Spec PyProof.Rows L2 GX

/-- the walk: the first want ends it -/
def gLoop (want : Bool) (set : D → Env → Option Env) (fe : FE) (ρ : Env) : List D → Src → Option (Bool × Src)
  | [], s => some (!want, s)
  | d :: r, s => (set d ρ).bind fun ρ2 => (fe ρ2 s).bind fun x => match x.1 with
    | .bool b => if b = want then some (want, x.2) else gLoop want set fe ρ r x.2
    | _ => none
def fQ (want : Bool) (fi : FI) (set : D → Env → Option Env) (fe : FE) (vs : List Nat) : FE := fun ρ s => (fi ρ s).bind fun x => (gLoop want set fe (wipeE ρ vs) x.1 x.2).map fun y => (.bool y.1, y.2)
section
variable {A : Act} {ρ ρ3 : Env} {s s6 : Src} {σ σ3 : L2.St} {H H3 H6 : Hp}
/-- from a block's slots back to the def's -/
theorem Rel.toDef (R3 : Rel A ρ s σ H3) (R6 : Rel A ρ3 s6 σ3 H6) (k6 : DL.Kp A H3 H6) : Rel A ρ s6 σ H6 :=
  { len := R3.len, nl := R3.nl, keep := R6.keep, src := R6.src, exin := R6.exin, fix := R3.fix
    val := fun j e h n => let ⟨w, q1, q2⟩ := R3.val j e h n; ⟨w, q1, q2.mono (R3.sm k6)⟩
    ownv := fun j e h n => by
      obtain ⟨p, o, q1, q2, q3⟩ := R3.ownv j e h n
      exact ⟨p, o, q1, k6 p o q2 fun z => (R3.root j p n q1).2.1 (R3.mvEx z), q3.mono (R3.sm k6)⟩
    root := fun j p n h => by
      obtain ⟨q1, q2, o, q3⟩ := R3.root j p n h
      exact ⟨q1, q2, o, k6 p o q3 fun z => q2 (R3.mvEx z)⟩
    inj := R3.inj
    tabs := R6.tabs }
/-- a table has grown -/
theorem Rel.tabbed {P : Addr} {H' : Hp} (R : Rel A ρ s σ H) (hP : A.tb P) (t : GxR.Tabbed P H H') : Rel A ρ s σ H' ∧ DL.Kp A H H' := by
  have kk : DL.Kp A H H' := fun a o h n => by
    have ne : a ≠ P := fun e => n (.inr (by rw [e]; exact hP))
    rw [t.2 a ne]
    exact h
  refine ⟨R.src_step kk (fun p hp => ?_) fun p hp => ?_, kk⟩
  · have ne : p ≠ P := fun e => R.srcTab hp (by rw [e]; exact hP)
    rw [t.2 p ne]
    exact (R.src p hp).1
  · by_cases e : p = P
    · rw [e]; exact t.1
    · exact (R.tabs p hp).1.keep fun o q => by rw [t.2 p e]; exact q
end
section
variable {X : Cx} {own : Slots} {tg iter elt : Expr} {js : List Nat} {fi : FI} {set : D → Env → Option Env} {fe : FE} {pos : Pos} {scope : Scope} {cv : List (Str × Nat)} {b : Bool} {want : Bool}
/-- the reading of a walk -/
theorem tQ_of {A : Act} {P : Addr} (hP : A.tb P) (hw : A.Of own) (hv : cvOk own (cv.map (·.2)) js = true) : ∀ σ H Q, tE A (fQ want fi set fe (cv.map (·.2))) σ H Q → tQ P want (tI A b fi) (tG A js set) (tE A fe) (cv.map (·.2)) σ H Q := by
  intro σ H Q ⟨ρ, s, d, s', R, hf, q⟩
  unfold fQ at hf
  cases h0 : fi ρ s with
  | none => rw [h0] at hf; cases hf
  | some y =>
    obtain ⟨items, s1⟩ := y
    rw [h0, Option.bind_some] at hf
    cases h00 : gLoop want set fe (wipeE ρ (cv.map (·.2))) items s1 with
    | none => rw [h00] at hf; cases hf
    | some yy =>
    obtain ⟨br, s9⟩ := yy
    rw [h00] at hf
    cases hf
    have vs_ok : ∀ v ∈ cv.map (·.2), v ∉ A.own ∧ v ∉ A.fix.map (·.1) := fun v h => by
      unfold cvOk at hv
      simp only [Bool.and_eq_true, List.all_eq_true, Bool.not_eq_true'] at hv
      exact ⟨hw.nown (hv.1 v h).1, hw.nfix (hv.1 v h).2⟩
    have js_ok : ∀ j ∈ js, j ∈ cv.map (·.2) := fun j h => by
      unfold cvOk at hv
      simp only [Bool.and_eq_true, List.all_eq_true] at hv
      simpa using hv.2 j h
    refine ⟨ρ, s, items, s1, R, h0, fun J F H1 R1 k1 sm nx nr W => ⟨(R1.tabs P hP).1, fun H2 tb => ?_⟩⟩
    obtain ⟨R2, k2⟩ := R1.tabbed hP tb
    refine ⟨fun i m H3 => m = items.length - i ∧ i ≤ items.length ∧ ∃ s2, Rel A ρ s2 σ H3 ∧ DL.Kp A H1 H3 ∧ gLoop want set fe (wipeE ρ (cv.map (·.2))) (items.drop i) s2 = some (br, s9), ⟨items.length, by omega, Nat.zero_le _, s1, R2, k2, h00⟩, ?_⟩
    rintro i m H3 ⟨rfl, hi, s2, R3, k3, hl⟩
    have smF : Same F H3 := fun a o ha => k3 a o (sm a o ha) fun z => nx a o ha z
    by_cases hlt : i < items.length
    · refine .inr ⟨W.goes i H3 hlt smF, ?_⟩
      have hdrop : items.drop i = items[i] :: items.drop (i + 1) := List.drop_eq_getElem_cons hlt
      rw [hdrop] at hl
      unfold gLoop at hl
      cases h1 : set items[i] (wipeE ρ (cv.map (·.2))) with
      | none => rw [h1] at hl; cases hl
      | some ρ3 =>
        rw [h1, Option.bind_some] at hl
        cases h2 : fe ρ3 s2 with
        | none => rw [h2] at hl; cases hl
        | some x =>
          obtain ⟨ye, s3⟩ := x
          rw [h2, Option.bind_some] at hl
          cases ye with
          | bool bb =>
            have hl : (if bb = want then some (want, s3) else gLoop want set fe (wipeE ρ (cv.map (·.2))) (items.drop (i + 1)) s3) = some (br, s9) := hl
            refine ⟨fun H' => bb ≠ want ∧ ∃ s2, Rel A ρ s2 σ H' ∧ DL.Kp A H1 H' ∧ gLoop want set fe (wipeE ρ (cv.map (·.2))) (items.drop (i + 1)) s2 = some (br, s9), fun H' h => ⟨items.length - (i + 1), by omega, rfl, hlt, h.2⟩, fun v H4 hy => ?_⟩
            obtain ⟨dd, e1, e2⟩ := W.yields i H3 v H4 hlt smF hy
            rw [List.getElem?_eq_getElem hlt] at e1
            injection e1 with e1
            subst e1
            have C2 : Same (fre A σ H1) (fre A σ H3) := R1.sm k3
            have hvv : Rel A ρ s2 σ H4 ∧ Same H3 H4 ∧ Den A.K (fre A σ H4) v items[i] := by
              rcases e2 with ⟨rfl, d2⟩ | ⟨T, vs, ds', rfl, hT, rfl, d2, e3, np⟩
              · exact ⟨R3, Same.refl _, d2.mono C2⟩
              · rw [e3]
                exact ⟨R3.mono (same_upd hT), same_upd hT, den_tup R3 hT (d2.mono C2) np⟩
            obtain ⟨R4, sm4, d4⟩ := hvv
            obtain ⟨Rw, iw⟩ := Rel.wipe R4 (vs := cv.map (·.2)) vs_ok
            refine ⟨wipeE ρ (cv.map (·.2)), s2, items[i], ρ3, Rw, by rw [fre_iff iw]; exact d4, h1, fun σ3 R5 o5 i5 => ⟨wipe_only o5 js_ok, ρ3, s2, .bool bb, s3, R5, h2, fun u H6 R6 k6 d6 => ?_⟩⟩
            cases d6
            have Rb := Rel.toDef R4 R6 k6
            have kb : DL.Kp A H1 H6 := k3.trans ((Kp.of sm4).trans k6)
            refine ⟨bb, rfl, fun e => ?_, fun e => ⟨e, s3, Rb, kb, ?_⟩⟩
            · rw [if_pos e] at hl
              cases hl
              exact q _ H6 Rb (k1.trans kb) (.bl _)
            · rw [if_neg e] at hl
              exact hl
          | _ => cases hl
    · have ei : i = items.length := by omega
      subst ei
      rw [List.drop_length] at hl
      cases hl
      exact .inl ⟨W.stops H3 smF, q _ H3 R3 (k1.trans k3) (.bl _)⟩
variable {c P : Addr} {k : Nat} {p gpos : Pos}
theorem roomG_gen {X : Cx} {k : Nat} (h : RoomG (k + 3) X.A) (s : Shared) (H : Hp) (ce : PySem.Env) (fp : List Addr) (pn : List (Addr × Obj)) : RoomG k (gen X s H ce fp pn).A := by
  have h1 : RoomG (k + 2) X.A.in1 := { rm := h.rm.in1, gd := h.gd }
  have h2 : RoomG (k + 1) X.A.in1.in1 := { rm := h1.rm.in1, gd := h.gd }
  exact h2.deeper ce
theorem pd_anyQ (hr : RoomG (k + 3) X.A) (hm : X.mg "any" = none) (TB : GxR.TabB X.base X.mg c P) (hcode : X.env.code = .ref c) (hP : own.tb P) (hi : PID X own tg iter b fi) (ok : GenOk X.N X.env.scope scope cv)
    (hg : ∀ (s : Shared) (H : Hp) (ce : PySem.Env) (fp : List Addr) (pn : List (Addr × Obj)), ce.scope = scope → PGD (gen X s H ce fp pn) own tg js set)
    (he : ∀ (s : Shared) (H : Hp) (code : Value) (fp : List Addr) (pn : List (Addr × Obj)) (C : Addr), PD (gen X s H (genEnv scope (cloFrom X.env.cells scope.names []) C code builtinsNs X.env) fp pn) own elt fe)
    (hv : cvOk own (cv.map (·.2)) js = true := by decide) (hc : X.calm = true := by rfl) (hN : X.N.Nodup := by assumption) (hgl : Gl X "any" := by rfl) (hs : ∀ v, genFold iter X.env v = pure v := by intro _; rfl)
    (hst : starEach [.GeneratorExp elt [⟨tg, iter, [], 0⟩] scope gpos] X.env = (false, eval (.GeneratorExp elt [⟨tg, iter, [], 0⟩] scope gpos) X.env) :: starEach [] X.env := by rfl) :
    PD X own (.Call (.Name "any" p) [.GeneratorExp elt [⟨tg, iter, [], 0⟩] scope gpos] [] pos) (fQ true fi set fe (cv.map (·.2))) :=
  ⟨fun A hk hw => (pe_anyQ hc hr.rm hN hgl hm TB hcode (hi.run A hk hw) ok (fun s H ce fp pn e => (hg s H ce fp pn e).run A hk hw) (fun s H code fp pn C => (he s H code fp pn C).run A hk hw) hs hst).imp (tQ_of (by rw [hw.tb]; exact hP) hw hv)⟩
theorem pd_allQ (hr : RoomG (k + 3) X.A) (hm : X.mg "all" = none) (TB : GxR.TabB X.base X.mg c P) (hcode : X.env.code = .ref c) (hP : own.tb P) (hi : PID X own tg iter b fi) (ok : GenOk X.N X.env.scope scope cv)
    (hg : ∀ (s : Shared) (H : Hp) (ce : PySem.Env) (fp : List Addr) (pn : List (Addr × Obj)), ce.scope = scope → PGD (gen X s H ce fp pn) own tg js set)
    (he : ∀ (s : Shared) (H : Hp) (code : Value) (fp : List Addr) (pn : List (Addr × Obj)) (C : Addr), PD (gen X s H (genEnv scope (cloFrom X.env.cells scope.names []) C code builtinsNs X.env) fp pn) own elt fe)
    (hv : cvOk own (cv.map (·.2)) js = true := by decide) (hc : X.calm = true := by rfl) (hN : X.N.Nodup := by assumption) (hgl : Gl X "all" := by rfl) (hs : ∀ v, genFold iter X.env v = pure v := by intro _; rfl)
    (hst : starEach [.GeneratorExp elt [⟨tg, iter, [], 0⟩] scope gpos] X.env = (false, eval (.GeneratorExp elt [⟨tg, iter, [], 0⟩] scope gpos) X.env) :: starEach [] X.env := by rfl) :
    PD X own (.Call (.Name "all" p) [.GeneratorExp elt [⟨tg, iter, [], 0⟩] scope gpos] [] pos) (fQ false fi set fe (cv.map (·.2))) :=
  ⟨fun A hk hw => (pe_allQ hc hr.rm hN hgl hm (by decide +kernel) TB hcode (hi.run A hk hw) ok (fun s H ce fp pn e => (hg s H ce fp pn e).run A hk hw) (fun s H code fp pn C => (he s H code fp pn C).run A hk hw) hs hst).imp (tQ_of (by rw [hw.tb]; exact hP) hw hv)⟩
/-! ### repr -/
def isSeq : D → Bool
  | .list _ => true
  | .tuple _ => true
  | _ => false
def dRepr : List D → Option D
  | [d] => if isSeq d = true ∧ reprOk d = true then some (.str d.shown) else none
  | _ => none
theorem ca_repr : CalR X (rRepr X.K) dRepr := fun A ρ s σ H vs ds z Q hk R t hz q => by
  unfold dRepr at hz
  split at hz
  case h_2 => cases hz
  rename_i d
  split at hz
  case isFalse => cases hz
  rename_i hc
  cases hz
  obtain ⟨v, rfl, t1⟩ := t.one
  refine ⟨v, d, rfl, ?_, ?_, hc.2, q _ H (Same.refl H) (.str _)⟩
  · cases d with
    | list es => obtain ⟨a, _, e, _⟩ := t1.list; exact ⟨a, e⟩
    | tuple es => obtain ⟨a, _, e, _⟩ := t1.tuple; exact ⟨a, e⟩
    | _ => cases hc.1
  · rw [← hk.1]
    have nd : ∀ kvs, d ≠ .dict kvs := fun kvs e => by rw [e] at hc; cases hc.1
    exact (t1.den nd).dp
end
end DL
/-! Order of data: ints, texts, tuples of these at any depth. -/
namespace Ord
open PySem PySem.Spec PyProof.Rows

mutual
def od : PyData → Bool
  | .int _ => true
  | .str _ => true
  | .tuple ds => ods ds
  | _ => false
def ods : List PyData → Bool
  | [] => true
  | d :: ds => od d && ods ds
end
mutual
def ltD : PyData → PyData → Bool
  | .int a, .int b => decide (a < b)
  | .str x, .str y => decide (x.cps.toList < y.cps.toList)
  | .tuple xs, .tuple ys => ltDs xs ys
  | _, _ => false
def ltDs : List PyData → List PyData → Bool
  | [], [] => false
  | [], _ :: _ => true
  | _ :: _, [] => false
  | x :: xs, y :: ys => if PyData.eqv x y = true then ltDs xs ys else ltD x y
end
mutual
/-- may be asked for their order, place by place -/
def cmpD : PyData → PyData → Bool
  | .int _, .int _ => true
  | .str _, .str _ => true
  | .tuple xs, .tuple ys => cmpDs xs ys
  | _, _ => false
def cmpDs : List PyData → List PyData → Bool
  | [], [] => true
  | [], _ :: _ => true
  | _ :: _, [] => true
  | x :: xs, y :: ys => (PyData.eqv x y || cmpD x y) && cmpDs xs ys
end

/-! ### a code whose order is theirs -/
def llt : List Int → List Int → Bool
  | [], [] => false
  | [], _ :: _ => true
  | _ :: _, [] => false
  | a :: l, b :: m => if a = b then llt l m else decide (a < b)
theorem llt_asym : ∀ x y, llt x y = true → llt y x = false
  | [], [], h => by cases h
  | [], _ :: _, _ => rfl
  | _ :: _, [], h => by cases h
  | a :: l, b :: m, h => by
    unfold llt at h ⊢
    by_cases e : a = b
    · rw [if_pos e] at h
      rw [if_pos e.symm]
      exact llt_asym l m h
    · rw [if_neg e] at h
      rw [if_neg (fun z => e z.symm)]
      have := of_decide_eq_true h
      exact decide_eq_false (by omega)
theorem llt_tr : ∀ x y z, llt y x = false → llt z y = false → llt z x = false
  | [], [], z, _, h => h
  | [], _ :: _, [], _, _ => rfl
  | [], b :: m, c :: n, h1, _ => rfl
  | a :: l, [], z, h1, _ => by cases h1
  | a :: l, b :: m, [], _, h2 => by cases h2
  | a :: l, b :: m, c :: n, h1, h2 => by
    unfold llt at h1 h2 ⊢
    by_cases e1 : b = a
    · rw [if_pos e1] at h1
      by_cases e2 : c = b
      · rw [if_pos e2] at h2
        rw [if_pos (e2.trans e1)]
        exact llt_tr l m n h1 h2
      · rw [if_neg e2] at h2
        have := of_decide_eq_false h2
        rw [if_neg (by omega)]
        exact decide_eq_false (by omega)
    · rw [if_neg e1] at h1
      have q1 := of_decide_eq_false h1
      by_cases e2 : c = b
      · rw [if_neg (by omega)]
        exact decide_eq_false (by omega)
      · rw [if_neg e2] at h2
        have := of_decide_eq_false h2
        rw [if_neg (by omega)]
        exact decide_eq_false (by omega)
theorem llt_swo : SrtO.Swo llt := ⟨llt_asym, llt_tr⟩
def encS : List Nat → List Int
  | [] => [0]
  | c :: r => 4 :: (c : Int) :: encS r
mutual
def enc : PyData → List Int
  | .int i => [1, i]
  | .str x => 3 :: encS x.cps.toList
  | .tuple ds => 5 :: encs ds
  | _ => [9]
def encs : List PyData → List Int
  | [] => [0]
  | d :: ds => 7 :: (enc d ++ encs ds)
end
theorem llt_cons (a : Int) (l m : List Int) : llt (a :: l) (a :: m) = llt l m := by
  rw [llt, if_pos rfl]
theorem llt_ne {a b : Int} {l m : List Int} (h : a ≠ b) : llt (a :: l) (b :: m) = decide (a < b) := by
  rw [llt, if_neg h]
theorem encS_lt : ∀ (x y : List Nat) (r s : List Int), llt (encS x ++ r) (encS y ++ s) = if x = y then llt r s else decide (x < y)
  | [], [], r, s => by
    rw [if_pos rfl]
    exact llt_cons 0 r s
  | [], b :: m, r, s => by
    rw [if_neg (by simp)]
    rw [show encS [] ++ r = 0 :: r from rfl, show encS (b :: m) ++ s = 4 :: (b : Int) :: (encS m ++ s) from rfl, llt_ne (by decide)]
    have : ([] : List Nat) < b :: m := List.nil_lt_cons b m
    rw [decide_eq_true this]; rfl
  | a :: l, [], r, s => by
    rw [if_neg (by simp)]
    rw [show encS [] ++ s = 0 :: s from rfl, show encS (a :: l) ++ r = 4 :: (a : Int) :: (encS l ++ r) from rfl, llt_ne (by decide)]
    rw [decide_eq_false (List.not_lt_nil (a :: l))]; rfl
  | a :: l, b :: m, r, s => by
    rw [show encS (a :: l) ++ r = 4 :: (a : Int) :: (encS l ++ r) from rfl, show encS (b :: m) ++ s = 4 :: (b : Int) :: (encS m ++ s) from rfl, llt_cons]
    by_cases e : a = b
    · subst e
      rw [llt_cons, encS_lt l m r s]
      by_cases q : l = m
      · rw [if_pos q, if_pos (by rw [q])]
      · rw [if_neg q, if_neg (by simpa using q)]
        simp [List.cons_lt_cons_iff]
    · rw [llt_ne (by omega), if_neg (by simp [e])]
      have : (a :: l < b :: m) ↔ a < b := by
        rw [List.cons_lt_cons_iff]
        constructor
        · rintro (h | ⟨h, _⟩)
          · exact h
          · exact absurd h e
        · exact fun h => .inl h
      simp [this]
mutual
theorem eqv_eq : ∀ {x y : PyData}, od x = true → od y = true → (PyData.eqv x y = true ↔ x = y)
  | .int a, .int b, _, _ => by simp [PyData.eqv]
  | .int a, .str y, _, _ => by simp [PyData.eqv]
  | .int a, .tuple ys, _, _ => by simp [PyData.eqv]
  | .str x, .int b, _, _ => by simp [PyData.eqv]
  | .str x, .str y, _, _ => by simp [PyData.eqv]
  | .str x, .tuple ys, _, _ => by simp [PyData.eqv]
  | .tuple xs, .int b, _, _ => by simp [PyData.eqv]
  | .tuple xs, .str y, _, _ => by simp [PyData.eqv]
  | .tuple xs, .tuple ys, h1, h2 => by
    rw [od] at h1 h2
    have := eqvs_eq (xs := xs) (ys := ys) h1 h2
    simp only [PyData.eqv, PyData.tuple.injEq]
    exact this
theorem eqvs_eq : ∀ {xs ys : List PyData}, ods xs = true → ods ys = true → (PyData.eqvAll xs ys = true ↔ xs = ys)
  | [], [], _, _ => by simp [PyData.eqvAll]
  | [], _ :: _, _, _ => by simp [PyData.eqvAll]
  | _ :: _, [], _, _ => by simp [PyData.eqvAll]
  | x :: xs, y :: ys, h1, h2 => by
    rw [ods, Bool.and_eq_true] at h1 h2
    have a := eqv_eq h1.1 h2.1
    have b := eqvs_eq h1.2 h2.2
    simp only [PyData.eqvAll, Bool.and_eq_true, List.cons.injEq, a, b]
end
theorem ltD_tt {xs ys : List PyData} : ltD (.tuple xs) (.tuple ys) = ltDs xs ys := by rw [ltD.eq_def]
theorem ltDs_cc {x y : PyData} {xs ys : List PyData} : ltDs (x :: xs) (y :: ys) = if PyData.eqv x y = true then ltDs xs ys else ltD x y := by rw [ltDs.eq_def]
theorem llt_same : ∀ (l m n : List Int), llt (l ++ m) (l ++ n) = llt m n
  | [], _, _ => rfl
  | c :: l, m, n => by rw [List.cons_append, List.cons_append, llt_cons, llt_same l m n]
theorem str_ext {x y : Str} (h : x.cps.toList = y.cps.toList) : x = y := by
  cases x with
  | mk a =>
    cases y with
    | mk b =>
      have : a.toList = b.toList := h
      have := Array.toList_inj.mp this
      rw [this]
mutual
theorem enc_lt : ∀ (x y : PyData) (r s : List Int), od x = true → od y = true → cmpD x y = true → llt (enc x ++ r) (enc y ++ s) = if PyData.eqv x y = true then llt r s else ltD x y
  | .int a, .int b, r, s, h1, h2, _ => by
    have q := eqv_eq h1 h2
    rw [show enc (.int a) ++ r = 1 :: a :: r by rw [enc]; rfl, show enc (.int b) ++ s = 1 :: b :: s by rw [enc]; rfl, llt_cons]
    by_cases e : a = b
    · subst e
      rw [llt_cons, if_pos (q.mpr rfl)]
    · rw [llt_ne e, if_neg (fun z => e (by simpa using q.mp z)), ltD.eq_def]
  | .str x, .str y, r, s, h1, h2, _ => by
    have q := eqv_eq h1 h2
    rw [show enc (.str x) ++ r = 3 :: (encS x.cps.toList ++ r) by rw [enc]; rfl, show enc (.str y) ++ s = 3 :: (encS y.cps.toList ++ s) by rw [enc]; rfl, llt_cons, encS_lt]
    by_cases e : x = y
    · rw [if_pos (by rw [e]), if_pos (q.mpr (by rw [e]))]
    · rw [if_neg (fun z => e (str_ext z)), if_neg (fun z => e (by simpa using q.mp z)), ltD.eq_def]
  | .tuple xs, .tuple ys, r, s, h1, h2, h3 => by
    rw [od] at h1 h2
    have h3 : cmpDs xs ys = true := by rw [cmpD.eq_def] at h3; exact h3
    rw [show enc (.tuple xs) ++ r = 5 :: (encs xs ++ r) by rw [enc]; rfl, show enc (.tuple ys) ++ s = 5 :: (encs ys ++ s) by rw [enc]; rfl, llt_cons, encs_lt xs ys r s h1 h2 h3, ltD_tt]
    have e : PyData.eqv (.tuple xs) (.tuple ys) = PyData.eqvAll xs ys := by simp only [PyData.eqv]
    rw [e]
  | .int _, .str _, _, _, _, _, h => by simp [cmpD] at h
  | .int _, .tuple _, _, _, _, _, h => by simp [cmpD] at h
  | .str _, .int _, _, _, _, _, h => by simp [cmpD] at h
  | .str _, .tuple _, _, _, _, _, h => by simp [cmpD] at h
  | .tuple _, .int _, _, _, _, _, h => by simp [cmpD] at h
  | .tuple _, .str _, _, _, _, _, h => by simp [cmpD] at h
theorem encs_lt : ∀ (xs ys : List PyData) (r s : List Int), ods xs = true → ods ys = true → cmpDs xs ys = true → llt (encs xs ++ r) (encs ys ++ s) = if PyData.eqvAll xs ys = true then llt r s else ltDs xs ys
  | [], [], r, s, _, _, _ => by rw [if_pos (by simp [PyData.eqvAll]), encs]; exact llt_cons 0 r s
  | [], y :: ys, r, s, _, _, _ => by
    rw [if_neg (by simp [PyData.eqvAll]), show encs [] ++ r = 0 :: r by rw [encs]; rfl, show encs (y :: ys) ++ s = 7 :: (enc y ++ encs ys ++ s) by rw [encs]; rfl, llt_ne (by decide), ltDs.eq_def]; rfl
  | x :: xs, [], r, s, _, _, _ => by
    rw [if_neg (by simp [PyData.eqvAll]), show encs [] ++ s = 0 :: s by rw [encs]; rfl, show encs (x :: xs) ++ r = 7 :: (enc x ++ encs xs ++ r) by rw [encs]; rfl, llt_ne (by decide), ltDs.eq_def]; rfl
  | x :: xs, y :: ys, r, s, h1, h2, h3 => by
    rw [ods, Bool.and_eq_true] at h1 h2
    have h3 : (PyData.eqv x y = true ∨ cmpD x y = true) ∧ cmpDs xs ys = true := by rw [cmpDs.eq_def] at h3; simpa using h3
    rw [show encs (x :: xs) ++ r = 7 :: (enc x ++ (encs xs ++ r)) by rw [encs]; simp, show encs (y :: ys) ++ s = 7 :: (enc y ++ (encs ys ++ s)) by rw [encs]; simp, llt_cons, ltDs_cc]
    have a := eqv_eq h1.1 h2.1
    have ev : PyData.eqvAll (x :: xs) (y :: ys) = (PyData.eqv x y && PyData.eqvAll xs ys) := by simp only [PyData.eqvAll]
    by_cases e : PyData.eqv x y = true
    · rw [ev, e, Bool.true_and, if_pos rfl, ← a.mp e, llt_same]
      exact encs_lt xs ys r s h1.2 h2.2 h3.2
    · have c : cmpD x y = true := h3.1.resolve_left e
      rw [enc_lt x y _ _ h1.1 h2.1 c, if_neg e, if_neg e, if_neg (fun z => e (by rw [ev, Bool.and_eq_true] at z; exact z.1))]
end
/-- the total order -/
def olt (x y : PyData) : Bool := llt (enc x) (enc y)
theorem olt_swo : SrtO.Swo olt := ⟨fun x y h => llt_asym _ _ h, fun x y z h1 h2 => llt_tr _ _ _ h1 h2⟩
theorem olt_ltD {x y : PyData} (h1 : od x = true) (h2 : od y = true) (h3 : cmpD x y = true) (ne : ¬ PyData.eqv x y = true) : olt x y = ltD x y := by
  have := enc_lt x y [] [] h1 h2 h3
  rw [List.append_nil, List.append_nil, if_neg ne] at this
  exact this
theorem olt_self (x : PyData) : olt x x = false := olt_swo.refl x
end Ord
/-! < of such data; sorted of lists of such tuples. -/
namespace Ord
open PySem PySem.Spec PyProof.Rows PySem.SeqAt

theorem lex_is : ∀ (xs ys : List PyData) (i : Nat) (e r : Nat → Bool), (∀ j, e (i + j) = pairEq xs ys j) → (∀ j, r (i + j) = ltD (xs.getD j .none) (ys.getD j .none)) →
    Ob.lexAt e r (decide (xs.length < ys.length)) i (min xs.length ys.length) = ltDs xs ys
  | [], [], i, e, r, _, _ => by rw [ltDs.eq_def]; rfl
  | [], y :: ys, i, e, r, _, _ => by
    rw [ltDs.eq_def]
    show Ob.lexAt e r (decide (0 < ys.length + 1)) i (min 0 (ys.length + 1)) = true
    rw [Nat.zero_min, Ob.lexAt_zero]
    simp
  | x :: xs, [], i, e, r, _, _ => by
    rw [ltDs.eq_def]
    show Ob.lexAt e r (decide (xs.length + 1 < 0)) i (min (xs.length + 1) 0) = false
    rw [Nat.min_zero, Ob.lexAt_zero]
    simp
  | x :: xs, y :: ys, i, e, r, he, hr => by
    rw [ltDs_cc]
    have e0 := he 0
    have r0 := hr 0
    have hm : min (x :: xs).length (y :: ys).length = min xs.length ys.length + 1 := by
      rw [List.length_cons, List.length_cons]
      omega
    rw [hm, Ob.lexAt_succ]
    have e0' : e i = PyData.eqv x y := e0
    have r0' : r i = ltD x y := r0
    rw [e0', r0']
    have hd : decide ((x :: xs).length < (y :: ys).length) = decide (xs.length < ys.length) := by
      rw [List.length_cons, List.length_cons]
      by_cases q : xs.length < ys.length
      · rw [decide_eq_true q]; exact decide_eq_true (by omega)
      · rw [decide_eq_false q]; exact decide_eq_false (by omega)
    rw [hd, lex_is xs ys (i + 1) e r (fun j => by rw [show i + 1 + j = i + (j + 1) by omega, he (j + 1)]; rfl) fun j => by rw [show i + 1 + j = i + (j + 1) by omega, hr (j + 1)]; rfl]
mutual
theorem lt_reads : ∀ (da db : PyData) (A : Around) (s : Shared) (a b : Value) (as bs : List Addr), Reads s.heap a da as → Reads s.heap b db bs → da.canLay0 = true → db.canLay0 = true → cmpD da db = true →
    A.units + min da.depth db.depth < cLine → Ob.RcOp .Lt A s a b (ltD da db)
  | .int x, db, A, s, _, _, _, _, ra, rb, _, _, hc, _ => by
    cases ra
    cases rb with
    | int y u => rw [show ltD (.int x) (.int y) = decide (x < y) by rw [ltD.eq_def]]; exact Ob.RcOp.lt_int _ _ _ _
    | _ => simp [cmpD] at hc
  | .str x, db, A, s, _, _, _, _, ra, rb, _, _, hc, _ => by
    cases ra
    cases rb with
    | str y u =>
      rw [show ltD (.str x) (.str y) = decide (x.cps.toList < y.cps.toList) by rw [ltD.eq_def]]
      exact fun prog w E Q h => DT.rcLt_str A s x _ y u prog w E Q h
    | _ => simp [cmpD] at hc
  | .tuple xs, db, A, s, _, _, _, _, ra, rb, ha, hb, hc, hu => by
    cases ra with
    | @tuple l o vs n _ as h1 h2 h3 h4 =>
      cases rb with
      | @tuple l' o' vs' n' ys bs k1 k2 k3 k4 =>
        have hl : s.heap.IsTuple l vs := ⟨_, h1, h2, _, h3⟩
        have hl' : s.heap.IsTuple l' vs' := ⟨_, k1, k2, _, k3⟩
        have n1 : vs.size = xs.length := by simpa using ReadsAll.length _ _ _ h4
        have n2 : vs'.size = ys.length := by simpa using ReadsAll.length _ _ _ k4
        have hc : cmpDs xs ys = true := by rw [cmpD.eq_def] at hc; exact hc
        have ha : PyData.canLayAll0 xs = true := ha
        have hb : PyData.canLayAll0 ys = true := hb
        have T := Ob.RcOp.tuples_lt (A := A) (e := pairEq xs ys) (r := fun j => ltD (xs.getD j .none) (ys.getD j .none)) hl hl' (room_here hu) (fun j j1 j2 => by
          have := eqAt_readsAll xs ys A.in1 s vs.toList vs'.toList _ _ h4 k4 ha hb (room_in hu) j (by simpa using j1) (by simpa using j2)
          simpa using this) (fun j j1 j2 he => by
          have := lt_readsAll xs ys A.in1 s vs.toList vs'.toList _ _ h4 k4 ha hb hc (room_in hu) j (by simpa using j1) (by simpa using j2) he
          simpa using this)
        rw [ltD_tt, ← lex_is xs ys 0 (pairEq xs ys) (fun j => ltD (xs.getD j .none) (ys.getD j .none)) (fun j => by rw [Nat.zero_add]) fun j => by rw [Nat.zero_add]]
        rw [n1, n2] at T
        exact T
      | _ => simp [cmpD] at hc
  | .none, _, _, _, _, _, _, _, _, _, _, _, hc, _ => by simp [cmpD] at hc
  | .bool _, _, _, _, _, _, _, _, _, _, _, _, hc, _ => by simp [cmpD] at hc
  | .list _, _, _, _, _, _, _, _, _, _, _, _, hc, _ => by simp [cmpD] at hc
  | .dict _, _, _, _, _, _, _, _, _, _, _, _, hc, _ => by simp [cmpD] at hc
theorem lt_readsAll : ∀ (xs ys : List PyData) (A : Around) (s : Shared) (vs ws : List Value) (as bs : List Addr), ReadsAll s.heap vs xs as → ReadsAll s.heap ws ys bs → PyData.canLayAll0 xs = true → PyData.canLayAll0 ys = true → cmpDs xs ys = true →
    A.units + min (PyData.depthAll xs) (PyData.depthAll ys) < cLine → ∀ j (h1 : j < vs.length) (h2 : j < ws.length), pairEq xs ys j = false → Ob.RcOp .Lt A s vs[j] ws[j] (ltD (xs.getD j .none) (ys.getD j .none))
  | [], _, _, _, _, _, _, _, ra, _, _, _, _, _, j, h1, _ => by cases ra; exact absurd h1 (Nat.not_lt_zero _)
  | _ :: _, [], _, _, _, _, _, _, _, rb, _, _, _, _, j, _, h2 => by cases rb; exact absurd h2 (Nat.not_lt_zero _)
  | x :: xs, y :: ys, A, s, _, _, _, _, ra, rb, ha, hb, hc, hu, j, h1, h2 => by
    intro he
    have ha' : x.canLay0 = true ∧ PyData.canLayAll0 xs = true := by simpa [PyData.canLayAll0] using ha
    have hb' : y.canLay0 = true ∧ PyData.canLayAll0 ys = true := by simpa [PyData.canLayAll0] using hb
    have hc' : (PyData.eqv x y = true ∨ cmpD x y = true) ∧ cmpDs xs ys = true := by rw [cmpDs.eq_def] at hc; simpa using hc
    cases ra with
    | cons r rs =>
      cases rb with
      | cons r' rs' =>
        cases j with
        | zero =>
          have he : PyData.eqv x y = false := he
          exact lt_reads x y A s _ _ _ _ r r' ha'.1 hb'.1 (hc'.1.resolve_left (by rw [he]; decide)) (room_head hu)
        | succ j => exact lt_readsAll xs ys A s _ _ _ _ rs rs' ha'.2 hb'.2 hc'.2 (room_tail hu) j (by simpa using h1) (by simpa using h2) he
end

/-! ### the sort's question -/
/-- data that sort may be asked of: not too deep -/
def okD (d : PyData) : Bool := od d && d.canLay0 && decide (d.depth ≤ 30)
theorem okD_iff {d : PyData} : okD d = true ↔ od d = true ∧ d.canLay0 = true ∧ d.depth ≤ 30 := by
  unfold okD
  rw [Bool.and_eq_true, Bool.and_eq_true, decide_eq_true_eq]
  exact ⟨fun ⟨⟨a, b⟩, c⟩ => ⟨a, b, c⟩, fun ⟨a, b, c⟩ => ⟨⟨a, b⟩, c⟩⟩
section
variable {prog : Program} {w : World} {A : Around} {s : Shared} {Q : Bool → Shared → Prop}
theorem lex_data (fin flag : Bool) : ∀ (xs ys : List PyData) (vs ws : List Value) (as bs : List Addr) (i : Nat), ReadsAll s.heap vs xs as → ReadsAll s.heap ws ys bs → PyData.canLayAll0 xs = true → PyData.canLayAll0 ys = true → cmpDs xs ys = true →
    A.units + min (PyData.depthAll xs) (PyData.depthAll ys) < cLine → (flag = true → i = 0 → match xs with | .tuple _ :: _ => False | _ => True) →
    Q (if PyData.eqvAll (xs.take (min xs.length ys.length)) (ys.take (min xs.length ys.length)) = true then fin else ltDs (xs.take (min xs.length ys.length)) (ys.take (min xs.length ys.length))) s → PySem.W.KatLex prog w A flag fin Q (vs.zip ws) i s
  | [], ys, _, _, _, _, i, ra, _, _, _, _, _, _, h => by
    cases ra
    simp [PyData.eqvAll] at h
    exact PySem.W.kat_nil h
  | x :: xs, [], _, _, _, _, i, ra, rb, _, _, _, _, _, h => by
    cases rb
    rw [List.zip_nil_right]
    simp [PyData.eqvAll] at h
    exact PySem.W.kat_nil h
  | x :: xs, y :: ys, _, _, _, _, i, ra, rb, ha, hb, hc, hu, hf, h => by
    have ha' : x.canLay0 = true ∧ PyData.canLayAll0 xs = true := by simpa [PyData.canLayAll0] using ha
    have hb' : y.canLay0 = true ∧ PyData.canLayAll0 ys = true := by simpa [PyData.canLayAll0] using hb
    have hc' : (PyData.eqv x y = true ∨ cmpD x y = true) ∧ cmpDs xs ys = true := by rw [cmpDs.eq_def] at hc; simpa using hc
    have hm : min (x :: xs).length (y :: ys).length = min xs.length ys.length + 1 := by
      rw [List.length_cons, List.length_cons]
      omega
    rw [hm, List.take_succ_cons, List.take_succ_cons, ltDs_cc, show PyData.eqvAll (x :: xs.take (min xs.length ys.length)) (y :: ys.take (min xs.length ys.length)) = (PyData.eqv x y && PyData.eqvAll (xs.take (min xs.length ys.length)) (ys.take (min xs.length ys.length))) by simp only [PyData.eqvAll]] at h
    cases ra with
    | @cons v vs _ _ as1 as2 r rs =>
      cases rb with
      | @cons v' vs' _ _ bs1 bs2 r' rs' =>
        rw [List.zip_cons_cons]
        refine PySem.W.kat_cons (eqAt_reads x y A s v v' as1 bs1 r r' ha'.1 hb'.1 (room_head hu) prog w _ _ ?_)
        refine PySem.W.kat_go (fun e => ?_) fun e => ?_
        · rw [e, Bool.true_and, if_pos rfl] at h
          exact PySem.W.kat_yes (lex_data fin flag xs ys vs vs' as2 bs2 (i + 1) rs rs' ha'.2 hb'.2 hc'.2 (room_tail hu) (fun _ z => by omega) h)
        · rw [e, Bool.false_and, if_neg Bool.false_ne_true, if_neg Bool.false_ne_true] at h
          have c : cmpD x y = true := hc'.1.resolve_left (by rw [e]; decide)
          refine PySem.W.kat_no ?_
          have gen : wpAny (model prog w) A (oneLt' false v v') Q (fun _ _ => False) s := PySem.W.kat_one v v' (lt_reads x y A s v v' as1 bs1 r r' ha'.1 hb'.1 c (room_head hu) prog w _ _ h)
          cases hfl : (flag && i == 0) with
          | false => exact gen
          | true =>
            rw [Bool.and_eq_true, beq_iff_eq] at hfl
            have hx := hf hfl.1 hfl.2
            cases x with
            | int p =>
              cases y with
              | int q =>
                cases r
                cases r'
                rw [show ltD (.int p) (.int q) = decide (p < q) by rw [ltD.eq_def]] at h
                exact oneLt_int h
              | _ => simp [cmpD] at c
            | str p =>
              cases y with
              | str q =>
                cases r
                cases r'
                rw [show ltD (.str p) (.str q) = decide (p.cps.toList < q.cps.toList) by rw [ltD.eq_def]] at h
                exact oneLt_str h
              | _ => simp [cmpD] at c
            | tuple p => exact hx.elim
            | _ => simp [cmpD] at c
end
end Ord
/-! sorted, of tuples of ints, texts and such tuples. -/
namespace Ord
open PySem PySem.Spec PyProof.Rows PySem.SeqAt
open PySem.W (Looks)

theorem ltDs_same : ∀ {xs ys : List PyData}, PyData.eqvAll xs ys = true → ltDs xs ys = false
  | [], [], _ => by rw [ltDs.eq_def]
  | [], _ :: _, h => by simp [PyData.eqvAll] at h
  | _ :: _, [], h => by simp [PyData.eqvAll] at h
  | x :: xs, y :: ys, h => by
    have h' : PyData.eqv x y = true ∧ PyData.eqvAll xs ys = true := by simpa [PyData.eqvAll] using h
    rw [ltDs_cc, if_pos h'.1]
    exact ltDs_same h'.2
theorem lex_fin : ∀ (xs ys : List PyData), (if PyData.eqvAll (xs.take (min xs.length ys.length)) (ys.take (min xs.length ys.length)) = true then decide (xs.length < ys.length) else ltDs (xs.take (min xs.length ys.length)) (ys.take (min xs.length ys.length))) = ltDs xs ys
  | [], [] => by simp [PyData.eqvAll, ltDs]
  | [], y :: ys => by simp [PyData.eqvAll, ltDs]
  | x :: xs, [] => by simp [PyData.eqvAll, ltDs]
  | x :: xs, y :: ys => by
    have hm : min (x :: xs).length (y :: ys).length = min xs.length ys.length + 1 := by
      rw [List.length_cons, List.length_cons]
      omega
    have hd : decide ((x :: xs).length < (y :: ys).length) = decide (xs.length < ys.length) := by
      rw [List.length_cons, List.length_cons]
      by_cases q : xs.length < ys.length
      · rw [decide_eq_true q]; exact decide_eq_true (by omega)
      · rw [decide_eq_false q]; exact decide_eq_false (by omega)
    rw [hm, List.take_succ_cons, List.take_succ_cons, hd, ltDs_cc, ltDs_cc, show PyData.eqvAll (x :: xs.take (min xs.length ys.length)) (y :: ys.take (min xs.length ys.length)) = (PyData.eqv x y && PyData.eqvAll (xs.take (min xs.length ys.length)) (ys.take (min xs.length ys.length))) by simp only [PyData.eqvAll]]
    have ih := lex_fin xs ys
    by_cases e : PyData.eqv x y = true
    · rw [if_pos e, if_pos e, e, Bool.true_and]
      exact ih
    · have e' : PyData.eqv x y = false := by simpa using e
      rw [if_neg e, if_neg e, e', Bool.false_and, if_neg Bool.false_ne_true]
/-- the kind of a tuple's first item: 0 none, 1 int, 2 text, 3 tuple -/
def headK : PyData → Nat
  | .tuple (.int _ :: _) => 1
  | .tuple (.str _ :: _) => 2
  | .tuple (.tuple _ :: _) => 3
  | _ => 0
def clsK : Nat → Value
  | 1 => .type "int"
  | 2 => .type "str"
  | _ => .type "tuple"
/-- may be sorted -/
def sortOk (ds : List PyData) : Bool := ds.all okD && ds.all (fun x => ds.all fun y => cmpD x y) && ds.all (fun x => ds.all fun y => headK x == headK y && headK x != 0)
structure SortOk (ds : List PyData) : Prop where
  ok : ∀ x ∈ ds, okD x = true
  cmp : ∀ x ∈ ds, ∀ y ∈ ds, cmpD x y = true
  hd : ∀ x ∈ ds, ∀ y ∈ ds, headK x = headK y
  pos : ∀ x ∈ ds, headK x ≠ 0
theorem sortOk_iff {ds : List PyData} : sortOk ds = true ↔ SortOk ds := by
  unfold sortOk
  simp only [Bool.and_eq_true, List.all_eq_true, beq_iff_eq, bne_iff_ne]
  exact ⟨fun ⟨⟨a, b⟩, c⟩ => ⟨a, b, fun x hx y hy => (c x hx y hy).1, fun x hx => (c x hx x hx).2⟩, fun ⟨a, b, c, d⟩ => ⟨⟨a, b⟩, fun x hx y hy => ⟨c x hx y hy, d x hx⟩⟩⟩
mutual
theorem reads_od {h h' : Heap} {a : Addr} (kk : ∀ b o, b ≠ a → h.get? b = some o → h'.get? b = some o) (ha : ∀ o, h.get? a = some o → o.cls ≠ .type "tuple") : ∀ (d : PyData) (v : Value) (as : List Addr), od d = true → Reads h v d as → Reads h' v d as
  | .int x, _, _, _, r => by cases r; exact .int _ _
  | .str x, _, _, _, r => by cases r; exact .str _ _
  | .tuple xs, _, _, q, r => by
    cases r with
    | @tuple l o vs n _ as h1 h2 h3 h4 =>
      have q' : ods xs = true := by rw [od.eq_def] at q; exact q
      exact .tuple (kk _ _ (fun z => by subst z; exact ha _ h1 h2) h1) h2 h3 (reads_ods kk ha xs _ _ q' h4)
  | .none, _, _, q, _ => by simp [od] at q
  | .bool _, _, _, q, _ => by simp [od] at q
  | .list _, _, _, q, _ => by simp [od] at q
  | .dict _, _, _, q, _ => by simp [od] at q
theorem reads_ods {h h' : Heap} {a : Addr} (kk : ∀ b o, b ≠ a → h.get? b = some o → h'.get? b = some o) (ha : ∀ o, h.get? a = some o → o.cls ≠ .type "tuple") : ∀ (ds : List PyData) (vs : List Value) (as : List Addr), ods ds = true → ReadsAll h vs ds as → ReadsAll h' vs ds as
  | [], _, _, _, r => by cases r; exact .nil
  | d :: ds, _, _, q, r => by
    cases r with
    | cons r1 r2 =>
      have q' : od d = true ∧ ods ds = true := by rw [ods.eq_def] at q; simpa using q
      exact .cons (reads_od kk ha d _ _ q'.1 r1) (reads_ods kk ha ds _ _ q'.2 r2)
end
section
variable {prog : Program} {w : World} {A : Around} {s : Shared}
theorem data_key {x y : PyData} {a b : Value} {as bs : List Addr} {t : Nat} {Q : Bool → Shared → Prop} {E : Value → Shared → Prop} (hu : A.units + 40 < cLine) (ra : Reads s.heap a x as) (rb : Reads s.heap b y bs) (hx : okD x = true) (hy : okD y = true) (hc : cmpD x y = true)
    (tx : headK x = t) (ty : headK y = t) (h0 : t ≠ 0) (h : Q (olt x y) s) : wpAny (model prog w) A (keyLt' (tuples' (clsK t != Value.type "tuple")) a b) Q E s := by
  obtain ⟨x1, x2, x3⟩ := okD_iff.mp hx
  obtain ⟨y1, y2, y3⟩ := okD_iff.mp hy
  match x, y with
  | .tuple xs, .tuple ys =>
    have hle : olt (.tuple xs) (.tuple ys) = ltDs xs ys := by
      by_cases e : PyData.eqv (.tuple xs) (.tuple ys) = true
      · have e2 : PyData.eqvAll xs ys = true := by simpa [PyData.eqv] using e
        rw [ltDs_same e2, (eqv_eq x1 y1).mp e]
        exact olt_self _
      · rw [olt_ltD x1 y1 hc e, ltD_tt]
    cases ra with
    | @tuple l o vs n _ as h1 h2 h3 h4 =>
      cases rb with
      | @tuple l' o' vs' n' _ bs k1 k2 k3 k4 =>
        refine PySem.W.kat_lt h1 h3 k1 k3 ?_
        have l1 : vs.size = xs.length := by rw [← ReadsAll.length xs _ _ h4]; simp
        have l2 : vs'.size = ys.length := by rw [← ReadsAll.length ys _ _ k4]; simp
        rw [l1, l2]
        refine lex_data (s := s) _ _ xs ys _ _ _ _ 0 h4 k4 (by simpa [PyData.canLay0] using x2) (by simpa [PyData.canLay0] using y2) (by rw [cmpD.eq_def] at hc; exact hc) ?_ ?_ ?_
        · have d1 : (PyData.tuple xs).depth = PyData.depthAll xs + 1 := by simp [PyData.depth]
          omega
        · intro f _
          match xs with
          | .tuple q :: _ =>
            have : t = 3 := tx.symm
            subst this
            exact absurd f (by decide)
          | [] => trivial
          | .int _ :: _ => trivial
          | .str _ :: _ => trivial
          | .none :: _ => trivial
          | .bool _ :: _ => trivial
          | .list _ :: _ => trivial
          | .dict _ :: _ => trivial
        · rw [lex_fin, ← hle]
          exact h
  | .int _, _ => exact absurd tx.symm h0
  | .str _, _ => exact absurd tx.symm h0
  | .none, _ => exact absurd tx.symm h0
  | .bool _, _ => exact absurd tx.symm h0
  | .list _, _ => exact absurd tx.symm h0
  | .dict _, _ => exact absurd tx.symm h0
  | .tuple _, .int _ => exact absurd ty.symm h0
  | .tuple _, .str _ => exact absurd ty.symm h0
  | .tuple _, .none => exact absurd ty.symm h0
  | .tuple _, .bool _ => exact absurd ty.symm h0
  | .tuple _, .list _ => exact absurd ty.symm h0
  | .tuple _, .dict _ => exact absurd ty.symm h0
/-- the first items -/
theorem firsts_data {h : Heap} {t : Nat} (h0 : t ≠ 0) : ∀ {vs : List Value} {k : Value → PyData}, (∀ v ∈ vs, (∃ as, Reads h v (k v) as) ∧ headK (k v) = t) →
    ∃ fs, PySem.W.KatTups h vs fs ∧ fs.length = vs.length ∧ ∀ f ∈ fs, ∀ M : Model, Looks M h (typeOf f) (clsK t)
  | [], _, _ => ⟨[], PySem.W.KatTups.nil, rfl, fun _ z => nomatch z⟩
  | v :: vs, k, hv => by
    obtain ⟨fs, h1, h2, h3⟩ := firsts_data h0 (vs := vs) (k := k) fun u hu => hv u (List.mem_cons_of_mem _ hu)
    obtain ⟨⟨as, r⟩, e⟩ := hv v List.mem_cons_self
    generalize k v = d at r e
    have one : ∃ a o xs n f, v = .ref a ∧ h.get? a = some o ∧ o.cls = .type "tuple" ∧ o.data = .seq xs n ∧ xs[0]? = some f ∧ ∀ M : Model, Looks M h (typeOf f) (clsK t) := by
      match d with
      | .tuple (d0 :: ds) =>
        cases r with
        | @tuple l o vs n _ as q1 q2 q3 q4 =>
          have hv0 : ∃ f r, vs.toList = f :: r ∧ ∃ bs, Reads h f d0 bs := by
            generalize vs.toList = L at q4
            cases q4 with
            | cons r1 r2 => exact ⟨_, _, rfl, _, r1⟩
          obtain ⟨f, rr, ev, bs, rf⟩ := hv0
          refine ⟨l, o, vs, n, f, rfl, q1, q2, q3, ?_, fun M => ?_⟩
          · rw [← Array.getElem?_toList, ev] <;> rfl
          · match d0 with
            | .int _ => cases rf; have : t = 1 := e.symm; subst this; exact PySem.W.Looks.now
            | .str _ => cases rf; have : t = 2 := e.symm; subst this; exact PySem.W.Looks.now
            | .tuple _ =>
              cases rf with
              | tuple p1 p2 p3 p4 =>
                have : t = 3 := e.symm
                subst this
                rw [show clsK 3 = Value.type "tuple" from rfl, ← p2]
                exact (PySem.W.Looks.ld p1).andThen PySem.W.Looks.now
            | .none => exact absurd e.symm h0
            | .bool _ => exact absurd e.symm h0
            | .list _ => exact absurd e.symm h0
            | .dict _ => exact absurd e.symm h0
      | .tuple [] => exact absurd e.symm h0
      | .int _ => exact absurd e.symm h0
      | .str _ => exact absurd e.symm h0
      | .none => exact absurd e.symm h0
      | .bool _ => exact absurd e.symm h0
      | .list _ => exact absurd e.symm h0
      | .dict _ => exact absurd e.symm h0
    obtain ⟨a, o, xs, n, f, rfl, p1, p2, p3, p4, p5⟩ := one
    refine ⟨f :: fs, PySem.W.KatTups.cons p1 p2 p3 p4 h1, by rw [List.length_cons, List.length_cons, h2], fun g hg => ?_⟩
    rcases List.mem_cons.mp hg with e | hg
    · rw [e]; exact p5
    · exact h3 g hg
theorem data_sortable {a : Addr} {vs : List Value} {k : Value → PyData} (hu : A.units + 40 < cLine) (h0 : 0 < vs.length) (hv : ∀ v ∈ vs, ∃ as, Reads s.heap v (k v) as) (so : SortOk (vs.map k)) (ha : ∀ o, s.heap.get? a = some o → o.cls ≠ .type "tuple") :
    SrtO.SortableO prog w A s a vs fun v u => olt (k v) (k u) := by
  intro h' keep
  have mk : ∀ v ∈ vs, k v ∈ vs.map k := fun v hv => List.mem_map.mpr ⟨v, hv, rfl⟩
  have hv' : ∀ v ∈ vs, ∃ as, Reads h' v (k v) as := fun v hm => by
    obtain ⟨as, r⟩ := hv v hm
    exact ⟨as, reads_od keep ha _ _ _ (okD_iff.mp (so.ok _ (mk v hm))).1 r⟩
  obtain ⟨v0, hm0⟩ : ∃ v0, v0 ∈ vs := by
    match vs, h0 with
    | v :: _, _ => exact ⟨v, List.mem_cons_self⟩
  obtain ⟨fs, h1, h2, h3⟩ := firsts_data (so.pos _ (mk v0 hm0)) fun v hm => ⟨hv' v hm, so.hd _ (mk v hm) _ (mk v0 hm0)⟩
  refine ⟨tuples' (clsK (headK (k v0)) != Value.type "tuple"), fun Q E hq => ?_, fun p q hp hq => ?_⟩
  · exact PySem.W.kat_kind h1 (by omega) (fun f hf => h3 f hf _) (by unfold clsK; split <;> rfl) hq
  · obtain ⟨as, ra⟩ := hv' p.1 hp
    obtain ⟨bs, rb⟩ := hv' q.1 hq
    exact data_key (s := { s with heap := h' }) hu ra rb (so.ok _ (mk _ hp)) (so.ok _ (mk _ hq)) (so.cmp _ (mk _ hp) _ (mk _ hq)) (so.hd _ (mk _ hp) _ (mk v0 hm0)) (so.hd _ (mk _ hq) _ (mk v0 hm0)) (so.pos _ (mk v0 hm0)) ⟨rfl, rfl⟩
end

/-! ### sorting data -/
def insD (x : PyData) : List PyData → List PyData
  | [] => [x]
  | y :: r => if olt x y = true then x :: y :: r else y :: insD x r
def sortRev : List PyData → List PyData
  | [] => []
  | x :: r => insD x (sortRev r)
/-- stable: the later of two equal ones is put in last -/
def sortD (ds : List PyData) : List PyData := sortRev ds.reverse
theorem insD_split (x : PyData) : ∀ (l : List PyData), SrtO.Srtd olt l → ∃ M N, l = M ++ N ∧ insD x l = M ++ x :: N ∧ (∀ y ∈ M, olt x y = false) ∧ ∀ y ∈ N, olt x y = true
  | [], _ => ⟨[], [], rfl, rfl, (fun _ h => nomatch h), (fun _ h => nomatch h)⟩
  | y :: r, h => by
    unfold insD
    by_cases e : olt x y = true
    · rw [if_pos e]
      exact ⟨[], y :: r, rfl, rfl, (fun _ h => nomatch h), olt_swo.lt_all h e⟩
    · rw [if_neg e]
      obtain ⟨M, N, e1, e2, e3, e4⟩ := insD_split x r (List.pairwise_cons.mp h).2
      refine ⟨y :: M, N, by rw [e1]; rfl, by rw [e2]; rfl, fun z hz => ?_, e4⟩
      rcases List.mem_cons.mp hz with q | hz
      · rw [q]; simpa using e
      · exact e3 z hz
theorem sortRev_ok : ∀ (l : List PyData), SrtO.Srtd olt (sortRev l) ∧ SrtO.Stb olt (sortRev l) l.reverse
  | [] => ⟨List.Pairwise.nil, SrtO.Stb.refl _⟩
  | x :: r => by
    obtain ⟨h1, h2⟩ := sortRev_ok r
    obtain ⟨M, N, e1, e2, e3, e4⟩ := insD_split x _ h1
    show SrtO.Srtd olt (insD x (sortRev r)) ∧ SrtO.Stb olt (insD x (sortRev r)) (x :: r).reverse
    rw [e2, List.reverse_cons]
    rw [e1] at h1 h2
    exact ⟨SrtO.ins_srtd olt_swo h1 e3 e4, SrtO.ins_stb olt_swo e4 h2⟩
theorem sortD_srt (l : List PyData) : SrtO.Srtd olt (sortD l) := (sortRev_ok _).1
theorem sortD_stb (l : List PyData) : SrtO.Stb olt (sortD l) l := by
  have := (sortRev_ok l.reverse).2
  rw [List.reverse_reverse] at this
  exact this
theorem sortD_uniq {l m : List PyData} (h : SrtO.Srtd olt m) (hs : SrtO.Stb olt m l) : m = sortD l :=
  SrtO.stb_uniq olt_swo h (sortD_srt l) (hs.trans ⟨(sortD_stb l).perm.symm, fun x => ((sortD_stb l).cls x).symm⟩)
theorem sortD_mem {l : List PyData} {x : PyData} : x ∈ sortD l ↔ x ∈ l := (sortD_stb l).perm.mem_iff
theorem sortD_len (l : List PyData) : (sortD l).length = l.length := (sortD_stb l).perm.length_eq
end Ord
/-! sorted, as a rule: of lists, of the keys and the pairs of a dict with tuple keys. -/
namespace Ord
open PySem PySem.Spec PyProof.Rows PySem.SeqAt PySem.Calls

open Classical in
noncomputable def rdD (h : Heap) (v : Value) : PyData := if q : ∃ d as, Reads h v d as ∧ d.canLay0 = true then q.choose else .none
theorem rdD_eq {h : Heap} {v : Value} {d : PyData} {as : List Addr} (r : Reads h v d as) (c : d.canLay0 = true) : rdD h v = d := by
  have q : ∃ d as, Reads h v d as ∧ d.canLay0 = true := ⟨d, as, r, c⟩
  unfold rdD
  rw [dif_pos q]
  obtain ⟨bs, r2, c2⟩ := q.choose_spec
  exact Reads.unique _ _ v _ _ c2 r2 r
theorem rdD_map {h : Heap} : ∀ {vs : List Value} {ds : List PyData} {as : List Addr}, ReadsAll h vs ds as → PyData.canLayAll0 ds = true → vs.map (rdD h) = ds ∧ ∀ v ∈ vs, ∃ bs, Reads h v (rdD h v) bs
  | [], ds, _, r, _ => by cases r; exact ⟨rfl, fun _ z => nomatch z⟩
  | v :: vs, ds, _, r, c => by
    cases r with
    | @cons _ _ d ds' as bs r1 r2 =>
      have c' : d.canLay0 = true ∧ PyData.canLayAll0 ds' = true := by simpa [PyData.canLayAll0] using c
      obtain ⟨h1, h2⟩ := rdD_map r2 c'.2
      have e := rdD_eq r1 c'.1
      refine ⟨by rw [List.map_cons, h1, e], fun u hu => ?_⟩
      rcases List.mem_cons.mp hu with q | hu
      · subst q; rw [e]; exact ⟨_, r1⟩
      · exact h2 u hu
section
variable {prog : Program} {w : World} {A : Around} {s : Shared} {E : Value → Shared → Prop}
/-- a source's items in a list, and where that list lies -/
theorem collect_src {T : String} {r d : Addr} {n : Nat} {P : Nat → Value → Prop} {OK : Heap → Prop} {R : List Value → Shared → Prop} (S : PySem.W.KdlSrc prog w T r d n P OK) (hq : A.handled = none) (ok : OK s.heap) (hz : n ≤ sizeLine)
    (h : ∀ (g : Heap) (tk : Nat) (xs : Array Value), (∀ b o, s.heap.get? b = some o → g.get? b = some o) → s.heap.objs.size ≤ g.objs.size → ItemsOf P xs n → R xs.toList { s with heap := g, toks := tk }) :
    wpAny (model prog w) A (collect (.ref r)) R E s := by
  have there := S.there _ ok
  let z := s.heap.objs.size
  let h0 := s.heap.push { cls := .type "list", data := .seq ([] : List Value).toArray }
  have at0 : h0.get? z = some { cls := .type "list", data := .seq #[] } := Heap.get?_push_size _ rfl
  have up : ∀ b o, s.heap.get? b = some o → h0.get? b = some o := fun b o e => Heap.get?_push_of_some _ e
  let Z : Heap → Nat → Array Value → Nat → Prop := fun g tk xs c => (∀ b o, s.heap.get? b = some o → g.get? b = some o) ∧ g.get? z = some { cls := .type "list", dict := none, data := .seq xs c, slots := #[] } ∧ ItemsOf P xs n
  have fin : ∀ (g : Heap) (tk : Nat) (xs : Array Value) (c : Nat), Z g tk xs c → wpAny (model prog w) A (load z >>= fun o => match o.data with
      | .seq ys _ => pure ys.toList
      | _ => unsupported "internal:collect") R E { s with heap := g, toks := tk } := fun g tk xs c ⟨k1, k2, k3⟩ =>
    wpAny_bind (wpAny_load k2 (wpAny_pure (h g tk xs k1 (Nat.le_of_lt (Heap.lt_size k2)) k3)))
  have run := PySem.W.kdl_extend (A := A) (s := { s with heap := h0 }) (R := fun (q : Result) (t : Shared) => ∃ g tk xs c, q = .ok (.ret (.ref z)) ∧ t = { s with heap := g, toks := tk } ∧ Z g tk xs c) S hq
    (S.keep _ _ ok fun b _ o e => up b o e) z (Nat.ne_of_gt there.1) (Nat.ne_of_gt there.2) (.ref z) 0 at0 (fun g tk xs c kk k2 k3 => ⟨g, tk, xs, c, rfl, rfl, fun b o e => kk b o (Nat.ne_of_lt (Heap.lt_size e)) (up b o e), k2, k3⟩) hz
  unfold collect; refine wpAny_bind (wpAny_runValue (codeAny_builtin entry_proto_collect' ?_)); rw [Around.under_plainId PySem.F.plain_proto_collect _]
  show wpAny (model prog w) A.in1 (newList [] >>= fun q => again (.builtin "list.__iadd__" ⟨[q, .ref r], []⟩)) _ _ s
  refine wpAny_bind (wpAny_newObj_type (wpAny_pure ⟨plainId_quiet PySem.F.plain_list_iadd _, codeAny_builtin entry_list_iadd' ?_⟩)); rw [Around.under_plainId PySem.F.plain_list_iadd _]
  refine wpAny_mono (show wpAny (model prog w) A.in1 (Builtin.List.listExtendWith (.ref z) (.ref r) (.ref z)) _ _ { s with heap := h0 } from run) (fun f t x => ?_) fun e t x => by obtain ⟨_, _, _, _, bad, _⟩ := x; cases bad
  match f with
  | .done q =>
    obtain ⟨g, tk, xs, c, eq, rfl, k⟩ := x
    cases eq
    exact fin g tk xs c k
  | .again q =>
    refine ⟨x.1, codeAny_mono x.2 fun y t2 k2 => ?_⟩
    obtain ⟨g, tk, xs, c, rfl, rfl, k⟩ := k2
    exact fin g tk xs c k
theorem sorted_data {l : Addr} {ds : List PyData} {Pv : List Value → Heap → Prop} {Q : Value → Shared → Prop} (hu : A.units + 44 < cLine)
    (hcol : ∀ R : List Value → Shared → Prop, (∀ h' tk vs, (∀ b o, s.heap.get? b = some o → h'.get? b = some o) → s.heap.objs.size ≤ h'.objs.size → Pv vs h' → R vs { s with heap := h', toks := tk }) → wpAny (model prog w) A.in1 (collect (.ref l)) R E s)
    (hP : ∀ vs h', Pv vs h' → ∃ as, ReadsAll h' vs ds as) (lay : PyData.canLayAll0 ds = true) (hz : ds.length ≤ sizeLine) (so : ds.length < 2 ∨ SortOk ds)
    (h : ∀ (h1 h2 : Heap) (tk : Nat) (vs out : List Value), (∀ b o, s.heap.get? b = some o → h1.get? b = some o) → Pv vs h1 → (∀ b o, h1.get? b = some o → h2.get? b = some o) → s.heap.objs.size ≤ h1.objs.size →
      (∃ n, h2.get? h1.objs.size = some (seqObj "list" out.toArray n)) → out.map (rdD h1) = sortD ds → (∀ v ∈ out, v ∈ vs) → Q (.ref h1.objs.size) { s with heap := h2, toks := tk }) :
    wpAny (model prog w) A (call (.builtin "sorted") [.ref l]) Q E s := by
  refine Calls.call_function_entry kind_sorted plain_sorted entry_sorted (args_sorted1 _) ?_
  unfold Builtin.«sorted»
  refine wpAny_bind (m := checkCount "sorted" 1 1 _) (wpAny_pure ?_)
  refine wpAny_bind (hcol _ fun h1 tk vs kp hle hv => ?_)
  obtain ⟨as, rd⟩ := hP vs h1 hv
  obtain ⟨hm, hr⟩ := rdD_map rd lay
  have hl : vs.length = ds.length := by rw [← hm, List.length_map]
  refine wpAny_bind (wpAny_newList ?_ (by rw [hl]; exact hz))
  have ho : (h1.push (seqObj "list" vs.toArray 0)).get? h1.objs.size = some (seqObj "list" vs.toArray 0) := Heap.get?_push_size _ rfl
  have up : ∀ b o, h1.get? b = some o → (h1.push (seqObj "list" vs.toArray 0)).get? b = some o := fun b o e => Heap.get?_push_of_some _ e
  refine wpAny_bind (wpAny_holding (wpAny_call_entry slot_list_sort ⟨_, ho, rfl⟩ entry_list_sort
    (SrtO.list_sort_ord (s := { s with heap := h1.push (seqObj "list" vs.toArray 0), toks := tk }) (ltv := fun v u => olt (rdD h1 v) (rdD h1 u)) ⟨fun x y => olt_swo.asym _ _, fun x y z => olt_swo.tr _ _ _⟩ ho (by rw [hl]; exact hz) (fun h2 => ?_) fun out hs hb => ⟨_, rfl, ?_⟩) (args_list_sort _)))
  · refine data_sortable (s := { s with heap := h1.push (seqObj "list" vs.toArray 0), toks := tk }) (by show A.units + 1 + 1 + 40 < cLine; omega) (by omega) (fun v hv => ?_) ?_ fun o e => ?_
    · obtain ⟨bs, r⟩ := hr v hv
      exact ⟨bs, Reads.keeps up r⟩
    · rw [hm]
      exact so.resolve_left (by omega)
    · rw [show (h1.push (seqObj "list" vs.toArray 0)).get? h1.objs.size = some o from e] at ho
      cases ho
      intro c
      exact absurd (Value.type.inj c) (by decide)
  · refine wpAny_pure ⟨_, rfl, ?_⟩
    refine h h1 _ tk vs out kp hv (fun b o e => ?_) hle (sortedHeap_at ho) ?_ fun v hv => hb.perm.mem_iff.mp hv
    · have hlt : b < h1.objs.size := Heap.lt_size e
      show (sortedHeap (h1.push (seqObj "list" vs.toArray 0)) h1.objs.size vs out.toArray).get? b = some o
      rw [sortedHeap_old (Nat.ne_of_lt hlt) (by rw [size_push']; exact Nat.lt_succ_of_lt hlt)]
      exact up _ _ e
    · have := sortD_uniq (SrtO.srtd_map hs) (SrtO.Stb.map olt_swo (rdD h1) hb)
      rw [this, hm]
end
end Ord
/-! sorted, as rules of the layer. -/
namespace GX
open PySem PySem.Spec PyProof.Rows L2 Ord
open PySem.SeqAt (ReadsAll.length)

theorem den_back {K : PySem.W.Frag} {F : Hp} {h : Heap} {xs : List V} {its : List Value} {ds : List PyData} (hd : DenAll K F xs ds) (e1 : xs = its.map backV) (e2 : its.map (rdD h) = ds) : ∀ out : List Value, (∀ v ∈ out, v ∈ its) → DenAll K F (out.map backV) (out.map (rdD h))
  | [], _ => .nil
  | v :: out, hm => by
    obtain ⟨i, hi⟩ := List.mem_iff_getElem?.mp (hm v List.mem_cons_self)
    have x1 : xs[i]? = some (backV v) := by rw [e1, List.getElem?_map, hi] <;> rfl
    obtain ⟨d, d1, d2⟩ := DenAll.get' hd x1
    have d3 : ds[i]? = some (rdD h v) := by rw [← e2, List.getElem?_map, hi] <;> rfl
    rw [d1] at d3
    cases d3
    exact .cons d2 (den_back hd e1 e2 out fun u hu => hm u (List.mem_cons_of_mem _ hu))
theorem tup_refs {K : PySem.W.Frag} {F : Hp} : ∀ {xs : List V} {ds : List PyData}, DenAll K F xs ds → (∀ d ∈ ds, headK d ≠ 0) → ∀ x ∈ xs, ∃ a, x = V.ref a
  | [], _, _, _, x, hx => nomatch hx
  | v :: vs, _, h, hp, x, hx => by
    cases h with
    | @cons _ _ d ds h1 h2 =>
      rcases List.mem_cons.mp hx with e | hx
      · subst e
        have := hp d List.mem_cons_self
        cases h1 with
        | tup a b => exact ⟨_, rfl⟩
        | lst a b => exact ⟨_, rfl⟩
        | _ => exact absurd rfl this
      · exact tup_refs h2 (fun e he => hp e (List.mem_cons_of_mem _ he)) x hx
theorem canAll : ∀ {ds : List PyData}, (∀ d ∈ ds, d.canLay0 = true) → PyData.canLayAll0 ds = true
  | [], _ => by simp [PyData.canLayAll0]
  | d :: ds, h => by
    have := canAll (ds := ds) fun e he => h e (List.mem_cons_of_mem _ he)
    simp [PyData.canLayAll0, h d List.mem_cons_self, this]
section
variable {X : Cx} {A : Around} {pins : List (Addr × Obj)} {σ : L2.St} {H F : Hp} {s : Shared} {Q : VK} {E : Value → Shared → Prop}
/-- the items stand already -/
theorem sorted_at {a : Addr} {xs : List V} {its : List Value} {ds : List PyData} (hu : A.units + 44 < cLine) (I : Inv X pins σ H s) (rv : Vals xs its) (hz : its.length ≤ sizeLine) (sm : Same F H) (hd : DenAll X.K F xs ds) (so : sortOk ds = true)
    (hcol : ∀ R : List Value → Shared → Prop, (∀ h' tk, (∀ b o, s.heap.get? b = some o → h'.get? b = some o) → s.heap.objs.size ≤ h'.objs.size → R its { s with heap := h', toks := tk }) → wpAny (model X.prog X.w) A.in1 (collect (.ref a)) R E s)
    (q : ∀ ys p, H p = none → DenAll X.K F ys (sortD ds) → Q (.ref p) (upd H p (.lst ys))) : wpAny (model X.prog X.w) A (call (.builtin "sorted") [.ref a]) (EP X pins σ Q) E s := by
  have so' := sortOk_iff.mp so
  have hl : xs.length = ds.length := hd.length
  obtain ⟨e1, e2⟩ := refs_back rv (tup_refs hd so'.pos)
  have lay : PyData.canLayAll0 ds = true := canAll fun d hm => (okD_iff.mp (so'.ok d hm)).2.1
  obtain ⟨as, rd⟩ := Dp.readsAll I ds xs its (hd.mono sm).dp rv
  refine sorted_data (ds := ds) (Pv := fun vs h' => vs = its ∧ ∀ b o, s.heap.get? b = some o → h'.get? b = some o) hu (fun R k => hcol R fun h' tk kp le => k h' tk its kp le ⟨rfl, kp⟩) (fun vs h' ⟨e, kp⟩ => ⟨as, by rw [e]; exact ReadsAll.keeps kp rd⟩) lay
    (by rw [← hl, rv.length]; exact hz) (.inr so') fun h1 h2 tk vs out kp ⟨e, _⟩ kp2 le ⟨n, hn⟩ hm hsub => ?_
  subst e
  obtain ⟨e3, _⟩ := rdD_map (ReadsAll.keeps kp rd) lay
  have hden := den_back hd e1 e3 out hsub
  rw [hm] at hden
  have hrefs : ∀ u ∈ out, ∃ a, u = Value.ref a := fun u hu => e2 u (hsub u hu)
  have hlen : (out.map backV).length ≤ sizeLine := by
    rw [hden.length, sortD_len, ← hl, rv.length]
    exact hz
  have hf : H h1.objs.size = none := I.hok.fresh le
  exact ⟨.ref h1.objs.size, upd H h1.objs.size (.lst (out.map backV)), I.laid (t' := tk) (fun b o e => kp2 b o (kp b o e)) le ⟨hlen, out, n, vals_back hrefs, hn⟩, rfl, q _ _ hf hden⟩
end
section
variable {X : Cx}
/-- sorted(xs), xs a list -/
def rSortL (K : PySem.W.Frag) : List V → Hp → VK → Prop := fun vs H Q => ∃ (a : Addr) (xs : List V) (ds : List PyData) (F : Hp), vs = [V.ref a] ∧ SqL K H a xs ∧ Same F H ∧ DenAll K F xs ds ∧ sortOk ds = true ∧
  ∀ ys p, H p = none → DenAll K F ys (sortD ds) → Q (.ref p) (upd H p (.lst ys))
theorem cr_sortL (hu : X.A.units + 64 < cLine) : CallR X (.builtin "sorted") (rSortL X.K) := by
  intro pins s σ H vs us Q I r h
  obtain ⟨a, xs, ds, F, rfl, hs, sm, hd, so, q⟩ := h
  obtain ⟨its, rv, hl, hz⟩ := I.list hs
  rw [Vals.ref1 r]
  have hz' : its.length ≤ sizeLine := by rw [← rv.length]; exact hz
  exact sorted_at (by omega) I rv hz' sm hd so (fun R k => collect_list hl.isList (k _ s.toks (fun b o e => by
    rw [Heap.get?_update_ne _ _ _ _ (Nat.ne_of_lt (Heap.lt_size e))]
    exact Heap.get?_push_of_some _ e) (by rw [Heap.size_update, size_push']; exact Nat.le_succ _)) hz') q
/-- sorted(d), d a dict with tuple keys -/
def rSortX (w : World) (K : PySem.W.Frag) : List V → Hp → VK → Prop := fun vs H Q => ∃ (a : Addr) (l : List XE) (F : Hp), vs = [V.ref a] ∧ Rd H a (dxO w a l) ∧ Same F H ∧ KeysIn K F l ∧ sortOk (l.map fun e => DL.tkeyD e.1) = true ∧
  ∀ ys p, H p = none → DenAll K F ys (sortD (l.map fun e => DL.tkeyD e.1)) → Q (.ref p) (upd H p (.lst ys))
theorem den_keys {K : PySem.W.Frag} {F : Hp} : ∀ {k : List L2.Key}, DenAll K F (k.map kV) (k.map DL.keyD)
  | [] => .nil
  | .inl i :: k => .cons (.int i) den_keys
  | .inr x :: k => .cons (.str x) den_keys
theorem pl_keys : ∀ {k : List L2.Key}, L2.pl (k.map DL.keyD) = true → k = []
  | [], _ => rfl
  | .inl i :: k, h => by cases h
  | .inr x :: k, h => by cases h
theorem key_den {K : PySem.W.Frag} {F : Hp} {k : List L2.Key} {b : Addr} (h : SqT K F b (k.map kV) ∧ (k = [] → PlT K F b)) : Den K F (.ref b) (DL.tkeyD k) := .tup h.1 den_keys fun z => h.2 (pl_keys z)
theorem keys_den {K : PySem.W.Frag} {F : Hp} : ∀ {l : List XE}, KeysIn K F l → DenAll K F (l.map fun e => V.ref e.2.1) (l.map fun e => DL.tkeyD e.1)
  | [], _ => .nil
  | e :: l, h => .cons (key_den (h e List.mem_cons_self)) (keys_den fun x hx => h x (List.mem_cons_of_mem _ hx))
theorem keys_of {P : Program} {w : World} {l : List XE} {xs : List XR} (r : XP l xs) : (xs.map (entryOfKey (tupleKind (mixKind P w)))).map (·.key) = l.map fun e => Value.ref e.2.1 := by
  induction r with
  | nil => rfl
  | @cons p q ps qs h t ih =>
    rw [List.map_cons, List.map_cons, List.map_cons, ih, h.2.1]
    rfl
theorem vals_keys : ∀ l : List XE, Vals (l.map fun e => V.ref e.2.1) (l.map fun e => Value.ref e.2.1)
  | [] => .nil
  | _ :: l => .cons rfl (vals_keys l)
theorem keys_items {es : Array DictEntry} {xs : Array Value} {ks : List Value} (h : ItemsOf (fun i v => ∃ en : DictEntry, es[i]? = some en ∧ v = en.key) xs es.size) (e : es.toList.map (·.key) = ks) : xs.toList = ks := by
  rw [← e]
  apply List.ext_getElem?
  intro j
  rw [List.getElem?_map]
  cases hj : xs.toList[j]? with
  | none =>
    have h1 := List.getElem?_eq_none_iff.mp hj
    rw [Array.length_toList, h.1] at h1
    rw [List.getElem?_eq_none (by rw [Array.length_toList]; exact h1)] <;> rfl
  | some v =>
    rw [Array.getElem?_toList] at hj
    obtain ⟨en, h2, h3⟩ := h.2 j v hj
    rw [Array.getElem?_toList, h2, h3] <;> rfl
theorem cr_sortX (hu : X.A.units + 64 < cLine) (hc : X.calm = true) : CallR X (.builtin "sorted") (rSortX X.w X.K) := by
  intro pins s σ H vs us Q I r h
  obtain ⟨a, l, F, rfl, hr, sm, hk, so, q⟩ := h
  obtain ⟨h1, h2, xs, h3, h4, o, es, ep, h5, h6, h7, h8⟩ := dx_rd I.hok hr
  rw [Vals.ref1 r]
  have h8 := h8 X.prog
  have ek : es.toList.map (·.key) = l.map fun e => Value.ref e.2.1 := by rw [h8]; exact keys_of h3
  have hsz : es.size = l.length := by
    have := congrArg List.length ek
    rw [List.length_map, List.length_map, Array.length_toList] at this
    exact this
  refine sorted_at (by omega) I (vals_keys l) (by rw [List.length_map]; exact h2) sm (keys_den hk) so (fun R k => ?_) q
  refine collect_src (kdl_raw h1 h6 h7) (I.ok.hd hc) h5 (by rw [hsz]; exact h2) fun g tk ys kp le it => ?_
  rw [keys_items it ek]
  exact k g tk kp le
end
end GX
/-! sorted(d.items()), d a dict with tuple keys. -/
namespace GX
open PySem PySem.Spec PyProof.Rows L2 Ord
open DL (XD tkeyD KV)
open L2.DX (itemsO itemsO_ok takeT)

def itemsD (kvs : KV) : List PyData := kvs.map fun e => .tuple [e.1, e.2]
abbrev pairAt (h : Heap) (a : Addr) (x : XR) : Prop := h.get? a = some { cls := .type "tuple", data := .seq #[Value.ref x.2.1, x.2.2] }
section
variable {X : Cx} {pins : List (Addr × Obj)} {σ : L2.St} {H F : Hp} {s : Shared}
theorem items_reads {h1 : Heap} (I : Inv X pins σ H s) (sm : Same F H) (kp : ∀ b o, s.heap.get? b = some o → h1.get? b = some o) : ∀ {l : List XE} {xs : List XR} {kvs : KV} {as : List Addr}, XP l xs → XD X.K F l kvs → KeysIn X.K F l → Paired (pairAt h1) as xs →
    ∃ bs, ReadsAll h1 (as.map Value.ref) (itemsD kvs) bs
  | [], _, _, _, r, xd, _, p => by
    cases r
    cases xd
    cases p
    exact ⟨_, .nil⟩
  | e :: l, _, _, _, r, xd, hk, p => by
    cases r with
    | cons r1 r2 =>
      cases xd with
      | cons d1 d2 =>
        cases p with
        | cons p1 p2 =>
          obtain ⟨bs, q⟩ := items_reads I sm kp r2 d2 (fun x hx => hk x (List.mem_cons_of_mem _ hx)) p2
          obtain ⟨b1, q1⟩ := Dp.reads I (tkeyD e.1) (V.ref e.2.1) _ (Den.mono sm (key_den (hk e List.mem_cons_self))).dp (show RelV (.ref e.2.1) (.ref _) from (congrArg Value.ref r1.2.1).symm)
          obtain ⟨b2, q2⟩ := Dp.reads I _ _ _ (d1.mono sm).dp r1.2.2
          exact ⟨_, .cons (.tuple p1 rfl rfl (.cons (Reads.keeps kp q1) (.cons (Reads.keeps kp q2) .nil))) q⟩
theorem pl_item {k : List L2.Key} {d : PyData} : L2.pl [tkeyD k, d] = false := by
  match k with
  | [] => rfl
  | .inl _ :: r => cases r <;> rfl
  | .inr _ :: r => cases r <;> rfl
theorem items_den {K : PySem.W.Frag} {F' : Hp} (sm : Same F F') : ∀ {l : List XE} {kvs : KV} {as : List Addr}, XD K F l kvs → KeysIn K F l → as.length = l.length → (∀ (j : Nat) (a : Addr) (e : XE), as[j]? = some a → l[j]? = some e → F' a = some (.tup [.ref e.2.1, e.2.2])) →
    DenAll K F' (as.map V.ref) (itemsD kvs)
  | [], _, [], xd, _, _, _ => by cases xd; exact .nil
  | [], _, _ :: _, _, _, h, _ => by simp at h
  | _ :: _, _, [], _, _, h, _ => by simp at h
  | e :: l, _, a :: as, xd, hk, hl, ht => by
    cases xd with
    | cons d1 d2 =>
      refine .cons (.tup (.inl (.inl (ht 0 a e rfl rfl))) (.cons (Den.mono sm (key_den (hk e List.mem_cons_self))) (.cons (d1.mono sm) .nil)) fun z => by rw [pl_item] at z; cases z) ?_
      exact items_den sm d2 (fun x hx => hk x (List.mem_cons_of_mem _ hx)) (by simpa using hl) fun j b f h1 h2 => ht (j + 1) b f (by simpa using h1) (by simpa using h2)
theorem made_paired {P : Program} {w : World} {h1 : Heap} {lo : Addr} {es : Array DictEntry} : ∀ {xs : List XR} {as : List Addr}, as.length = xs.length → (∀ (j : Nat) (a : Addr), as[j]? = some a → ∃ e, (xs.map (entryOfKey (tupleKind (mixKind P w))))[j]? = some e ∧ h1.get? a = some { cls := .type "tuple", data := .seq #[e.key, e.val] }) →
    Paired (pairAt h1) as xs
  | [], [], _, _ => .nil
  | [], _ :: _, h, _ => by simp at h
  | _ :: _, [], h, _ => by simp at h
  | x :: xs, a :: as, hl, h => by
    refine .cons ?_ (made_paired (P := P) (w := w) (es := es) (lo := lo) (by simpa using hl) fun j b hj => ?_)
    · obtain ⟨e, h1, h2⟩ := h 0 a rfl
      cases h1
      exact h2
    · obtain ⟨e, h1, h2⟩ := h (j + 1) b (by simpa using hj)
      exact ⟨e, by simpa using h1, h2⟩
theorem vals_as : ∀ as : List Addr, Vals (as.map V.ref) (as.map Value.ref)
  | [] => .nil
  | _ :: as => .cons rfl (vals_as as)
theorem back_as : ∀ as : List Addr, as.map V.ref = (as.map Value.ref).map backV
  | [] => rfl
  | _ :: as => by rw [List.map_cons, List.map_cons, List.map_cons, back_as as] <;> rfl
end
section
variable {X : Cx}
/-- d.items() -/
def rItemsX (w : World) : V → List V → Hp → VK → Prop := fun x xs H Q => ∃ (a : Addr) (l : List XE), x = .ref a ∧ xs = [] ∧ Rd H a (dxO w a l) ∧ ∀ p, H p = none → Q (.ref p) (upd H p (itemsO p a))
theorem mt_itemsX : MtR X "dict.items" (rItemsX X.w) := by
  intro pins s σ H x xs v us Q I rx rxs h
  obtain ⟨a, l, rfl, rfl, ha, q⟩ := h
  cases rx
  cases rxs
  obtain ⟨h1, h2, zs, h3, h4, o, es, ep, h5, h6, h7, h8⟩ := dx_rd I.hok ha
  refine DT.callItems (es := es) (ep := ep) h1 ⟨o, h5, h6, h7⟩ ?_
  exact ⟨.ref s.heap.objs.size, upd H s.heap.objs.size (itemsO s.heap.objs.size a), I.laid (t' := s.toks) (fun _ _ => Heap.get?_push_of_some _) (Nat.le_refl _) (itemsO_ok (Heap.get?_push_size _ rfl)), rfl, q _ (I.hok.fresh (Nat.le_refl _))⟩
def rSortP (w : World) (K : PySem.W.Frag) : List V → Hp → VK → Prop := fun vs H Q => ∃ (p a : Addr) (l : List XE) (kvs : KV) (F : Hp), vs = [V.ref p] ∧ H p = some (itemsO p a) ∧ Rd H a (dxO w a l) ∧ Same F H ∧ KeysIn K F l ∧ XD K F l kvs ∧ sortOk (itemsD kvs) = true ∧
  ∀ (H2 : Hp) (ys : List V) (d : Addr), H d = none → Same H H2 → H2 d = some (.lst ys) → (∀ F', Same F F' → (∀ b o, H b = none → b ≠ d → H2 b = some o → F' b = some o) → DenAll K F' ys (sortD (itemsD kvs))) → Q (.ref d) H2
theorem cr_sortP (hu : X.A.units + 64 < cLine) (hc : X.calm = true) : CallR X (.builtin "sorted") (rSortP X.w X.K) := by
  intro pins s σ H vs us Q I r h
  obtain ⟨p, a, l, kvs, F, rfl, hp, hr, sm, hk, xd, so, q⟩ := h
  obtain ⟨h1, h2, xs, h3, h4, o, es, ep, h5, h6, h7, h8⟩ := dx_rd I.hok hr
  have h8 := h8 X.prog
  have view : s.heap.IsItemsView p a := (show ObjOk X.prog X.w H s.heap p (itemsO p a) from I.hok p _ hp).1
  rw [Vals.ref1 r]
  have lx : xs.length = l.length := (Paired.length h3).symm
  have le : es.size = l.length := by
    rw [← Array.length_toList, h8, List.length_map]
    exact lx
  have lk : (itemsD kvs).length = l.length := by unfold itemsD; rw [List.length_map]; exact xd.length.symm
  have so' := sortOk_iff.mp so
  have lay : PyData.canLayAll0 (itemsD kvs) = true := canAll fun d hm => (okD_iff.mp (so'.ok d hm)).2.1
  refine sorted_data (ds := itemsD kvs) (Pv := fun vs g => ∃ as, vs = as.map Value.ref ∧ as.length = es.size ∧ DT.Made es s.heap.objs.size g as ∧ ∀ b o, s.heap.get? b = some o → g.get? b = some o) (by omega)
    (fun R k => DT.collectI (es := es) (ep := ep) (I.ok.hd hc) view ⟨o, h5, h6, h7⟩ (by rw [le]; exact h2) fun g tk as kp lt la md => k g tk _ kp (Nat.le_of_lt lt) ⟨as, rfl, la, md, kp⟩)
    (fun vs g ⟨as, e, la, md, kp⟩ => ?_) lay (by rw [lk]; exact h2) (.inr so') fun g1 g2 tk vs out kp ⟨as, e, la, md, _⟩ kp2 le2 ⟨n, hn⟩ hm hsub => ?_
  · subst e
    refine items_reads I sm kp h3 xd hk (made_paired (P := X.prog) (w := X.w) (lo := 0) (es := es) (by rw [la, le, lx]) fun j b hj => ?_)
    obtain ⟨en, q1, q2⟩ := md.pairs j b hj
    exact ⟨en, by rw [← h8, Array.getElem?_toList]; exact q1, q2⟩
  subst e
  have kp3 : ∀ b o, s.heap.get? b = some o → g2.get? b = some o := fun b o e => kp2 b o (kp b o e)
  have la2 : as.length = l.length := by rw [la, le]
  have pr : Paired (pairAt g1) as xs := made_paired (P := X.prog) (w := X.w) (lo := 0) (es := es) (by rw [la, le, lx]) fun j b hj => by
    obtain ⟨en, q1, q2⟩ := md.pairs j b hj
    exact ⟨en, by rw [← h8, Array.getElem?_toList]; exact q1, q2⟩
  obtain ⟨bs, rd⟩ := items_reads I sm kp h3 xd hk pr
  obtain ⟨e3, _⟩ := rdD_map rd lay
  have hrefs : ∀ u ∈ out, ∃ b, u = Value.ref b := fun u hu => by
    obtain ⟨b, _, e⟩ := List.mem_map.mp (hsub u hu)
    exact ⟨b, e.symm⟩
  have lo : out.length = l.length := by
    have := congrArg List.length hm
    rw [List.length_map, sortD_len] at this
    exact this.trans lk
  have hf : H g1.objs.size = none := I.hok.fresh le2
  have nd : as.Nodup := List.Pairwise.imp (fun h => Nat.ne_of_lt h) md.rise
  have I1 : Inv X pins σ (upd H g1.objs.size (.lst (out.map backV))) { s with heap := g2, toks := tk } := I.laid (t' := tk) kp3 le2 ⟨by rw [List.length_map, lo]; exact h2, out, n, vals_back hrefs, hn⟩
  obtain ⟨H2, I2, k2, t2⟩ := takeT (P := fun b ws => ∃ (j : Nat) (e : XE), as[j]? = some b ∧ l[j]? = some e ∧ ws = [V.ref e.2.1, e.2.2]) I as _ I1 nd fun b hb => by
    obtain ⟨j, hj⟩ := List.mem_iff_getElem?.mp hb
    obtain ⟨x, hx, ob⟩ := paired_get pr hj
    obtain ⟨e, he, r1, r2, r3⟩ : ∃ e, l[j]? = some e ∧ e.1 = x.1 ∧ e.2.1 = x.2.1 ∧ RelV e.2.2 x.2.2 := by
      have hj' : j < l.length := by
        rw [lx.symm]
        exact (List.getElem?_eq_some_iff.mp hx).1
      obtain ⟨y, hy, z⟩ := paired_get h3 (List.getElem?_eq_getElem hj')
      rw [hx] at hy
      cases hy
      exact ⟨_, List.getElem?_eq_getElem hj', z⟩
    have gt : s.heap.objs.size < b := md.above b hb
    have lt : b < g1.objs.size := md.there hb
    refine ⟨Nat.le_of_lt gt, ?_, [.ref e.2.1, e.2.2], ⟨j, e, hj, he, rfl⟩, fun H2 => ⟨by show 2 ≤ sizeLine; decide, [Value.ref x.2.1, x.2.2], .cons (show RelV (.ref e.2.1) (.ref x.2.1) from (congrArg Value.ref r2).symm) (.cons r3 .nil), ⟨_, kp2 _ _ ob, rfl, _, rfl⟩⟩⟩
    rw [upd_ne (Nat.ne_of_lt lt)]
    exact I.hok.fresh (Nat.le_of_lt gt)
  have smH : Same H H2 := fun b o e => k2 b o (by rw [upd_ne (ne_of_none e hf)]; exact e)
  refine ⟨.ref g1.objs.size, H2, I2, rfl, q H2 (out.map backV) _ hf smH (k2 _ _ upd_same) fun F' sF nF => ?_⟩
  rw [← hm]
  refine den_back (items_den sF xd hk la2 fun j b e hj he => ?_) (back_as as) e3 out hsub
  have hb : b ∈ as := List.mem_of_getElem? hj
  obtain ⟨ws, ⟨j', e', hj', he', rfl⟩, hw⟩ := t2 b hb
  have ej : j' = j := by
    have h1 := List.getElem?_eq_some_iff.mp hj'
    have h2 := List.getElem?_eq_some_iff.mp hj
    obtain ⟨l1, q1⟩ := h1
    obtain ⟨l2, q2⟩ := h2
    exact (List.getElem_inj nd).mp (q1.trans q2.symm)
  subst ej
  rw [he] at he'
  cases he'
  exact nF b _ (I.hok.fresh (Nat.le_of_lt (md.above b hb))) (Nat.ne_of_lt (md.there hb)) hw
end
end GX
/-! sorted on data. -/
namespace DL
open PySem PySem.Spec PyProof.Rows L2 GX Ord
open L2.DX (itemsO itemsO_ok takeT)

def tXItems (w : World) (td : TE) : TE := fun σ H Q => td σ H fun x H1 => ∃ (a : Addr) (l : List XE), x = .ref a ∧ Rd H1 a (dxO w a l) ∧ ∀ p, H1 p = none → Q (.ref p) (upd H1 p (itemsO p a))
section
variable {X : Cx} {own : Slots} {o e : Expr} {f : FE} {td : TE} {apos cpos pos p : Pos}
theorem pe_xitems (ho : PE X o td) (hbase : attributeBase o "items" X.env (eval o X.env) = eval o X.env := by rfl) (hline : (apos.endLine == cpos.line) = true := by rfl) : PE X (.Call (.Attribute o "items" apos) [] [] cpos) (tXItems X.w td) := by
  constructor
  intro pins s σ H Q I h
  refine wpAny_Call_method0_late hbase hline (thn (ho.run pins s σ H _ I h) fun u s1 ⟨x, H1, I1, rx, a, l, ex, g, q⟩ => ?_)
  subst ex
  obtain rfl : u = Value.ref a := rx
  obtain ⟨t1, t2⟩ := x_type I1 g
  refine ⟨"dict", _, F.plainAttrs_dict, F.slot_dict_items, F.type_dict_items, t1, t2, ?_⟩
  exact Calls.callWith_builtin rfl (PySem.evalArgs_none (mt_itemsX pins s1 σ H1 (.ref a) [] (.ref a) [] Q I1 rfl .nil ⟨a, l, rfl, rfl, g, q⟩))
/-- sorted(d.items()) -/
def fSortIt (f : FE) : FE := fun ρ s => (f ρ s).bind fun x => match x.1 with
  | .dict kvs => if marked kvs = true then none else if sortOk (GX.itemsD kvs) = true then some (.list (sortD (GX.itemsD kvs)), x.2) else none
  | _ => none
theorem pf_sortIt (hu : X.A.units + 64 < cLine) (hc : X.calm = true) (ho : PB X own o f) (hm : X.mg "sorted" = none) (hg : Gl X "sorted" := by rfl) (hv : bootBuiltins "sorted" = some (.builtin "sorted") := by rfl)
    (hbase : attributeBase o "items" X.env (eval o X.env) = eval o X.env := by rfl) (hline : (apos.endLine == cpos.line) = true := by rfl)
    (he : starEach [.Call (.Attribute o "items" apos) [] [] cpos] X.env = (false, eval (.Call (.Attribute o "items" apos) [] [] cpos) X.env) :: starEach [] X.env := by rfl) :
    PF X own (.Call (.Name "sorted" p) [.Call (.Attribute o "items" apos) [] [] cpos] [] pos) (fSortIt f) :=
  ⟨fun A hk hw => (pe_callB (cr_sortP hu hc) hg hm hv (pa_cons (pe_xitems (ho.run A hk hw) hbase hline) pa_nil he) (by decide) (by decide) he (by rfl)).imp fun σ H Q ⟨ρ, s, d, s', R, hf, q⟩ => by
    unfold fSortIt at hf
    cases h1 : f ρ s with
    | none => rw [h1] at hf; cases hf
    | some x =>
      obtain ⟨d1, s1⟩ := x
      rw [h1, Option.bind_some] at hf
      cases d1 with
      | dict kvs =>
        simp only at hf
        split at hf
        case isTrue => cases hf
        rename_i hmk
        split at hf
        case isFalse => cases hf
        rename_i hso
        cases hf
        refine ⟨ρ, s, .dict kvs, s', R, h1, fun u H1 R1 k1 t1 => ?_⟩
        obtain ⟨a, o, rfl, nx, g1, g2⟩ := (show ∃ a o, u = .ref a ∧ ¬ A.ex a ∧ H1 a = some o ∧ HasO A.K A.w (fre A σ H1) a o (.dict kvs) from t1)
        rcases g2 with ⟨l, r, e0, _⟩ | ⟨l, rfl, z1, z2, z3, z4⟩
        · subst e0; exact absurd rfl hmk
        have xd : XD A.K (fre A σ H1) l kvs := .of z1 z2
        refine ⟨a, l, rfl, .inl (by rw [← hk.2]; exact g1), fun p hp => ?_⟩
        have s1 : Same H1 (upd H1 p (itemsO p a)) := same_upd hp
        refine ⟨p, a, l, kvs, fre A σ H1, rfl, upd_same, .inl (s1 _ _ (by rw [← hk.2]; exact g1)), fun b o e => s1 b o (fre_same b o e), by rw [← hk.1]; exact z4, by rw [← hk.1]; exact xd, hso, fun H2 ys c hc s2 e2 hden => ?_⟩
        have hc1 : H1 c = none := by
          by_cases z : c = p
          · subst z; exact hp
          · rw [upd_ne z] at hc; exact hc
        let H3 : Hp := fun b => if b = c then none else H2 b
        have h3c : H3 c = none := if_pos rfl
        have e3 : upd H3 c (.lst ys) = H2 := by
          funext b
          by_cases z : b = c
          · subst z; rw [upd_same, e2]
          · rw [upd_ne z]; exact if_neg z
        have s3 : Same H1 H3 := fun b o e => by
          have nb : b ≠ c := fun z => by subst z; rw [hc1] at e; cases e
          exact (if_neg nb).trans (s2 b o (s1 b o e))
        have := q c H3 (.lst ys) (R1.mono s3) (k1.trans (Kp.of s3)) h3c ⟨ys, rfl, by
          rw [hk.1]
          refine hden (fre A σ H3) (R1.sm (Kp.of s3)) fun b o hb hbc e => ?_
          have hb1 : H1 b = none := by
            by_cases z : b = p
            · subst z; exact hp
            · rw [upd_ne z] at hb; exact hb
          obtain ⟨n1, n2, _⟩ := R1.new hb1
          exact fre_of ((if_neg hbc).trans e) n1 n2⟩
        rw [e3] at this
        exact this
      | none => cases hf
      | bool _ => cases hf
      | int _ => cases hf
      | str _ => cases hf
      | list _ => cases hf
      | tuple _ => cases hf⟩
/-- sorted(l) -/
def dSortL : List D → Option D
  | [.list ds] => if sortOk ds = true then some (.list (sortD ds)) else none
  | _ => none
theorem cf_sortL : CalF X (rSortL X.K) dSortL := fun A ρ s σ H vs ds z Q hk R t hz q => by
  unfold dSortL at hz
  split at hz
  case h_2 => cases hz
  split at hz
  case isFalse => cases hz
  rename_i es hso
  cases hz
  obtain ⟨v, rfl, t1⟩ := t.one
  obtain ⟨a, ws, rfl, _, h1, h2⟩ := t1.list
  exact ⟨a, ws, es, fre A σ H, rfl, SqL.of h1, fre_same, by rw [← hk.1]; exact h2, hso, fun ys p hp hd => q p _ hp ⟨ys, rfl, by rw [hk.1]; exact hd⟩⟩
/-- sorted(d), tuple keys -/
def dSortX : List D → Option D
  | [.dict kvs] => if marked kvs = true then none else if sortOk (kvs.map (·.1)) = true then some (.list (sortD (kvs.map (·.1)))) else none
  | _ => none
theorem cf_sortX : CalF X (rSortX X.w X.K) dSortX := fun A ρ s σ H vs ds z Q hk R t hz q => by
  unfold dSortX at hz
  split at hz
  case h_2 => cases hz
  split at hz
  case isTrue => cases hz
  rename_i kvs hmk
  split at hz
  case isFalse => cases hz
  rename_i hso
  cases hz
  obtain ⟨v, rfl, t1⟩ := t.one
  obtain ⟨a, o, rfl, nx, g1, g2⟩ := (show ∃ a o, v = .ref a ∧ ¬ A.ex a ∧ H a = some o ∧ HasO A.K A.w (fre A σ H) a o (.dict kvs) from t1)
  rcases g2 with ⟨l, r, e0, _⟩ | ⟨l, rfl, z1, z2, z3, z4⟩
  · subst e0; exact absurd rfl hmk
  refine ⟨a, l, fre A σ H, rfl, .inl (by rw [← hk.2]; exact g1), fre_same, by rw [← hk.1]; exact z4, by rw [← z1]; exact hso, fun ys p hp hd => q p _ hp ⟨ys, rfl, ?_⟩⟩
  rw [hk.1, z1]
  exact hd
end
end DL
/-! dict(pairs), the keys tuples. -/
namespace GX
open PySem PySem.Spec PyProof.Rows L2

def mergeX (l : List XE) : List XE := l.foldl (fun acc e => putX acc e.1 e.2.1 e.2.2) []
theorem fold_len : ∀ (l acc : List XE), (l.foldl (fun acc e => putX acc e.1 e.2.1 e.2.2) acc).length ≤ acc.length + l.length
  | [], acc => Nat.le_refl _
  | e :: l, acc => by
    rw [List.foldl_cons, List.length_cons]
    have := fold_len l (putX acc e.1 e.2.1 e.2.2)
    have := putX_len acc e.1 e.2.1 e.2.2
    omega
theorem fold_xp : ∀ {l : List XE} {xs : List XR} {acc : List XE} {ys : List XR}, XP l xs → XP acc ys → XP (l.foldl (fun acc e => putX acc e.1 e.2.1 e.2.2) acc) (storedAllH ys xs)
  | [], _, _, _, h, q => by cases h; exact q
  | e :: l, _, _, _, h, q => by
    cases h with
    | @cons _ x _ xs h t =>
      rw [List.foldl_cons]
      have := q.put e.1 e.2.1 h.2.2
      rw [show storedH _ e.1 e.2.1 x.2.2 = storedH _ x.1 x.2.1 x.2.2 by rw [h.1, h.2.1]] at this
      show XP _ (storedAllH (storedH _ x.1 x.2.1 x.2.2) xs)
      exact fold_xp t this
section
variable {X : Cx} {pins : List (Addr × Obj)} {σ : L2.St} {H : Hp} {s : Shared}
theorem PlT.seq (I : Inv X pins σ H s) {a : Addr} {its : List Value} (h : PlT X.K H a) (t : IsTup s.heap a its.toArray) : PlainSeq "tuple" s.heap a its.toArray := by
  obtain ⟨o, h1, h2, n, h3⟩ := t
  have e : o.dict = none := by
    rcases h with ⟨o', u, q, d⟩ | ⟨o', q, d⟩
    · have := (show ObjOk X.prog X.w H s.heap a (.frz o' u) from I.hok a _ q).1
      rw [h1] at this; cases this; exact d
    · have := I.kIn a o' q
      rw [h1] at this; cases this; exact d
  exact ⟨o, n, h1, h2, e, h3⟩
abbrev PairE (K : PySem.W.Frag) (H : Hp) (p : Addr) (e : XE) : Prop := SqT K H p [.ref e.2.1, e.2.2] ∧ SqT K H e.2.1 (e.1.map kV)
theorem pairs_xr (I : Inv X pins σ H s) : ∀ {ps : List Addr} {l : List XE}, Paired (PairE X.K H) ps l → ∃ xs : List XR, XP l xs ∧ xs.length = ps.length ∧ (∀ (j : Nat) (x : XR), xs[j]? = some x → ∃ p, ps[j]? = some p ∧ PairAt s.heap p (.ref x.2.1) x.2.2) ∧
    ∀ x ∈ xs, (tupleKind (mixKind X.prog X.w)).is s.heap x.1 x.2.1
  | [], _, h => by
    cases h
    exact ⟨[], .nil, rfl, (fun j x e => by simp at e), (fun _ z => nomatch z)⟩
  | p :: ps, _, h => by
    cases h with
    | @cons _ e _ l h t =>
      obtain ⟨xs, h1, h2, h3, h4⟩ := pairs_xr I t
      obtain ⟨its, r, tp, _⟩ := I.tuple h.1
      obtain ⟨u1, u2, rfl, r1, r2⟩ := vals2 r
      cases r1
      refine ⟨(e.1, e.2.1, u2) :: xs, .cons ⟨rfl, rfl, r2⟩ h1, by rw [List.length_cons, List.length_cons, h2], fun j x ex => ?_, fun x hx => ?_⟩
      · cases j with
        | zero =>
          cases ex
          exact ⟨p, rfl, .inl tp⟩
        | succ j => exact h3 j x (by simpa using ex)
      · rcases List.mem_cons.mp hx with z | hx
        · subst z; exact key_at I h.2
        · exact h4 x hx
theorem pair_items {h : Heap} {ps : List Addr} {xs : List XR} (l : xs.length = ps.length) (q : ∀ (j : Nat) (x : XR), xs[j]? = some x → ∃ p, ps[j]? = some p ∧ PairAt h p (.ref x.2.1) x.2.2) :
    PairItems h (ps.map Value.ref).toArray (fun j => ps.getD j 0) (xs.map fun x => (Value.ref x.2.1, x.2.2)) := by
  refine ⟨by simp [l], fun j k v e => ?_⟩
  rw [List.getElem?_map] at e
  cases ex : xs[j]? with
  | none => rw [ex] at e; cases e
  | some x =>
    rw [ex] at e
    cases e
    obtain ⟨p, e1, e2⟩ := q j x ex
    have e3 : ps.getD j 0 = p := by rw [List.getD_eq_getElem?_getD, e1] <;> rfl
    show (List.map Value.ref ps).toArray[j]? = some (Value.ref (ps.getD j 0)) ∧ PairAt h (ps.getD j 0) _ _
    rw [e3]
    exact ⟨by simp [e1], e2⟩
end
section
variable {X : Cx}
def rDictX (w : World) (K : PySem.W.Frag) : List V → Hp → VK → Prop := fun vs H Q => ∃ (a : Addr) (ps : List Addr) (l : List XE), vs = [V.ref a] ∧ (SqL K H a (ps.map V.ref) ∨ SqT K H a (ps.map V.ref) ∧ PlT K H a) ∧ Paired (PairE K H) ps l ∧
  ∀ p, H p = none → Q (.ref p) (upd H p (dxO w p (mergeX l)))
theorem refs_its : ∀ {ps : List Addr} {us : List Value}, Vals (ps.map V.ref) us → us = ps.map Value.ref
  | [], us, r => by rw [List.map_nil] at r; cases r; rfl
  | p :: ps, us, r => by
    rw [List.map_cons] at r
    cases r with
    | cons h t => cases h; rw [List.map_cons, ← refs_its t]
theorem cr_dictX (hu : X.A.units + 64 < cLine) (hc : X.calm = true) : CallR X (.type "dict") (rDictX X.w X.K) := by
  intro pins s σ H vs us Q I r h
  obtain ⟨a, ps, l, rfl, hs, hp, q⟩ := h
  rw [Vals.ref1 r]
  obtain ⟨xs, h1, h2, h3, h4⟩ := pairs_xr I hp
  have pit := pair_items h2 h3
  have lp : l.length = ps.length := by rw [← h2]; exact Paired.length h1
  have fin : ps.length ≤ sizeLine → ∀ h' tk, h'.DictOfH (tupleKind (mixKind X.prog X.w)) s.heap.objs.size (storedAllH [] xs) → (∀ b o, b ∉ ([] : List Addr) → s.heap.get? b = some o → h'.get? b = some o) → EP X pins σ Q (.ref s.heap.objs.size) { s with heap := h', toks := tk } := fun hz h' tk hd k => by
    have hm : (s.heap.objs.size == sysModules) = false := beq_eq_false_iff_ne.mpr (Nat.ne_of_gt I.big)
    have hl : (mergeX l).length ≤ sizeLine := by
      have := fold_len l []
      unfold mergeX
      rw [List.length_nil] at this
      omega
    exact ⟨.ref s.heap.objs.size, upd H s.heap.objs.size (dxO X.w s.heap.objs.size (mergeX l)), I.laid (t' := tk) (fun b o e => k b o (fun z => nomatch z) e) (Nat.le_refl _) (dx_ok (dx_of (P := X.prog) hm hl (fold_xp h1 .nil) hd)), rfl, q _ (I.hok.fresh (Nat.le_refl _))⟩
  have have1 : PairsHaveH (prog := X.prog) (w := X.w) (tupleKind (mixKind X.prog X.w)) (xs.map fun x => (Value.ref x.2.1, x.2.2)).length (PairRel (xs.map fun x => (Value.ref x.2.1, x.2.2))) xs := by
    refine ⟨by rw [List.length_map], fun i key v e => ?_⟩
    have e : (xs.map fun x => (Value.ref x.2.1, x.2.2))[i]? = some (key, v) := e
    rw [List.getElem?_map] at e
    cases ex : xs[i]? with
    | none => rw [ex] at e; cases e
    | some x =>
      rw [ex] at e
      cases e
      exact ⟨x.1, x.2.1, rfl, rfl⟩
  have stay : KeysStay (prog := X.prog) (w := X.w) (tupleKind (mixKind X.prog X.w)) s.heap s.heap.objs.size [] xs := fun h' hk x hx => by
    obtain ⟨o, its, n, g1, g2, g3, g4⟩ := (show IsTupleKey (mixKind X.prog X.w) s.heap x.1 x.2.1 from h4 x hx)
    exact ⟨o, its, n, hk _ _ (Nat.ne_of_lt (Heap.lt_size g1)) (fun z => nomatch z) g1, g2, g3, g4⟩
  have lx : (xs.map fun x => (Value.ref x.2.1, x.2.2)).length = ps.length := by rw [List.length_map, h2]
  have room : (tupleKind (mixKind X.prog X.w)).room X.A.in1.in1 := tupleKind_room_in1 (by show X.A.units + 1 + 1 < cLine; omega)
  rcases hs with hs | ⟨hs, hpl⟩
  · obtain ⟨its, rv, tp, hz⟩ := I.list hs
    obtain rfl := refs_its rv
    rw [List.length_map] at hz
    exact call_dict_pairsH (PairArg.list a _ _ _) (I.ok.hd hc) room ⟨tp.elim fun o ⟨n, a1, a2, a3, a4⟩ => ⟨o, n, a1, a2, a3, a4⟩, pit⟩ have1 stay (by rw [lx]; exact hz) (fin hz)
  · obtain ⟨its, rv, tp, hz⟩ := I.tuple hs
    obtain rfl := refs_its rv
    rw [List.length_map] at hz
    exact call_dict_pairsH (PairArg.tuple a _ _ _) (I.ok.hd hc) room ⟨hpl.seq I tp, pit⟩ have1 stay (by rw [lx]; exact hz) (fin hz)
end
end GX

namespace DL
open PySem PySem.Spec PyProof.Rows L2 GX
def kvOf : D → Option (List L2.Key × D)
  | .tuple [k, v] => (keyOf k).map (·, v)
  | _ => none
theorem kvOf_some {d : D} {p : List L2.Key × D} (h : kvOf d = some p) : d = .tuple [tkeyD p.1, p.2] := by
  unfold kvOf at h
  split at h
  · rename_i k v
    cases h1 : keyOf k with
    | none => rw [h1] at h; cases h
    | some kk =>
      rw [h1] at h
      cases h
      rw [keyOf_tkeyD h1]
  · cases h
def pairsD : List D → Option (List (List L2.Key × D))
  | [] => some []
  | d :: r => (kvOf d).bind fun p => (pairsD r).map (p :: ·)
def mergeT (ps : List (List L2.Key × D)) : KV := ps.foldl (fun acc p => putT acc p.1 p.2) []
def dDictX : List D → Option D
  | [.list ds] => (pairsD ds).map fun ps => .dict (mergeT ps)
  | [.tuple ds] => if pl ds = true then (pairsD ds).map fun ps => .dict (mergeT ps) else none
  | _ => none
theorem pairs_den {K : PySem.W.Frag} {F : Hp} : ∀ {ds : List D} {ws : List V} {ps : List (List L2.Key × D)}, DenAll K F ws ds → pairsD ds = some ps → ∃ (as : List Addr) (l : List XE), ws = as.map V.ref ∧ Paired (PairE K F) as l ∧
    ∀ (acc : List XE) (kvs : KV), XD K F acc kvs → KeysIn K F acc → (acc.map (·.1)).Nodup → XD K F (l.foldl (fun acc e => putX acc e.1 e.2.1 e.2.2) acc) (ps.foldl (fun acc p => putT acc p.1 p.2) kvs) ∧
      KeysIn K F (l.foldl (fun acc e => putX acc e.1 e.2.1 e.2.2) acc) ∧ ((l.foldl (fun acc e => putX acc e.1 e.2.1 e.2.2) acc).map (·.1)).Nodup
  | [], _, _, h, e => by
    cases h
    cases e
    exact ⟨[], [], rfl, .nil, fun acc kvs h1 h2 h3 => ⟨h1, h2, h3⟩⟩
  | d :: ds, _, ps, h, e => by
    unfold pairsD at e
    cases h1 : kvOf d with
    | none => rw [h1] at e; cases e
    | some kv =>
      rw [h1, Option.bind_some] at e
      cases h2 : pairsD ds with
      | none => rw [h2] at e; cases e
      | some ps' =>
        rw [h2] at e
        cases e
        obtain ⟨kk, v⟩ := kv
        have ed := kvOf_some h1
        subst ed
        cases h with
        | cons d1 d2 =>
          obtain ⟨as, l, rfl, p, f⟩ := pairs_den d2 h2
          cases d1 with
          | tup g1 g2 _ =>
            cases g2 with
            | cons k1 g3 =>
              cases g3 with
              | cons v1 g4 =>
                cases g4
                obtain ⟨b, rfl, kb⟩ := den_key k1
                refine ⟨_ :: as, (kk, b, _) :: l, rfl, .cons ⟨g1, kb.1⟩ p, fun acc kvs x1 x2 x3 => ?_⟩
                exact f _ _ (x1.put kk b v1) (put_keys x2 kb) (put_nodup x3)
section
variable {X : Cx}
theorem Paired.weak {α β : Type} {G G' : α → β → Prop} (h : ∀ a b, G a b → G' a b) : ∀ {l : List α} {m : List β}, Paired G l m → Paired G' l m
  | _, _, .nil => .nil
  | _, _, .cons a b => .cons (h _ _ a) (Paired.weak h b)
theorem cf_dictX : CalF X (rDictX X.w X.K) dDictX := fun A ρ s σ H vs ds z Q hk R t hz q => by
  have main : ∀ (es : List D) (ps : List (List L2.Key × D)) (a : Addr) (ws : List V), pairsD es = some ps → DenAll A.K (fre A σ H) ws es → z = .dict (mergeT ps) → (∀ as : List Addr, ws = as.map V.ref → SqL X.K H a (as.map V.ref) ∨ SqT X.K H a (as.map V.ref) ∧ PlT X.K H a) → rDictX X.w X.K [.ref a] H Q := by
    intro es ps a ws h1 h2 h3 h4
    subst h3
    obtain ⟨as, l, e, p, f⟩ := pairs_den h2 h1
    obtain ⟨x1, x2, x3⟩ := f [] [] .nil (fun _ z => nomatch z) List.nodup_nil
    refine ⟨a, as, l, rfl, h4 as e, ?_, fun c hc => ?_⟩
    · rw [← hk.1]
      exact Paired.weak (fun b e ⟨g1, g2⟩ => ⟨Same.seqT fre_same g1, Same.seqT fre_same g2⟩) p
    · rw [← hk.2]
      exact q c _ hc (.inr ⟨_, rfl, x1.keys, x1.vals, x3, x2⟩)
  unfold dDictX at hz
  split at hz
  · rename_i es
    obtain ⟨v, rfl, t1⟩ := t.one
    obtain ⟨a, ws, rfl, _, h1, h2⟩ := t1.list
    cases h3 : pairsD es with
    | none => rw [h3] at hz; cases hz
    | some ps =>
      rw [h3] at hz
      cases hz
      exact main es ps a ws h3 h2 rfl fun as e => .inl (by rw [← e]; exact SqL.of h1)
  · rename_i es
    split at hz
    case isFalse => cases hz
    rename_i hpl
    obtain ⟨v, rfl, t1⟩ := t.one
    cases (show Den A.K (fre A σ H) v (.tuple es) from t1) with
    | @tup a ws _ h1 h2 h4 =>
      cases h3 : pairsD es with
      | none => rw [h3] at hz; cases hz
      | some ps =>
        rw [h3] at hz
        cases hz
        exact main es ps a ws h3 h2 rfl fun as e => .inr ⟨by rw [← e, ← hk.1]; exact seqT_fre h1, by rw [← hk.1]; exact (h4 hpl).mono fre_same⟩
  · cases hz
end
end DL
/-! A comprehension over an own dict with tuple keys. -/
namespace GX
open PySem PySem.Spec PyProof.Rows L2
/-- the keys of the locked dict at d, in their order -/
def Itx (w : World) (d : Addr) (o : Obj) (l : List XE) : It :=
  ⟨fun i H => H d = some (.frz o (dxO w d l)) ∧ i < l.length, fun i H x H' => H' = H ∧ ∃ e, l[i]? = some e ∧ x = .ref e.2.1, fun i H => H d = some (.frz o (dxO w d l)) ∧ l.length ≤ i⟩
section
variable {X : Cx} {pins : List (Addr × Obj)} {σ : L2.St} {H : Hp} {s : Shared} {d : Addr} {o : Obj} {l : List XE}
theorem frzX (I : Inv X pins σ H s) (h : H d = some (.frz o (dxO X.w d l))) : (d == sysModules) = false ∧ s.heap.get? d = some o ∧ o.ExactDict ∧ ∃ (es : Array DictEntry) (ep : Nat), o.data = .dict es ep ∧ es.size = l.length ∧
    ∀ (i : Nat) (e : XE), l[i]? = some e → ∃ en : DictEntry, es[i]? = some en ∧ en.key = .ref e.2.1 := by
  have ok := (show ObjOk X.prog X.w H s.heap d (.frz o (dxO X.w d l)) from I.hok d _ h)
  obtain ⟨h1, h2, xs, h3, h4, o', es, ep, h5, h6, h7, h8⟩ := (show DXat X.w d l s.heap from ok.2.1)
  have g := ok.1
  rw [g] at h5
  cases h5
  have ek : es.toList.map (·.key) = l.map fun e => Value.ref e.2.1 := by rw [h8 X.prog]; exact keys_of h3
  refine ⟨h1, g, h6, es, ep, h7, ?_, fun i e he => ?_⟩
  · have := congrArg List.length ek
    rw [List.length_map, List.length_map, Array.length_toList] at this
    exact this
  · have q : (es.toList.map (·.key))[i]? = some (Value.ref e.2.1) := by rw [ek, List.getElem?_map, he] <;> rfl
    rw [List.getElem?_map] at q
    cases z : es.toList[i]? with
    | none => rw [z] at q; cases q
    | some en =>
      rw [z] at q
      exact ⟨en, by rw [← Array.getElem?_toList]; exact z, Option.some.inj q⟩
end
theorem turn_keysX {P : Program} {w : World} {K : PySem.W.Frag} {tg : Expr} {d : Addr} {o : Obj} {es : Array DictEntry} {ep : Nat} {l : List XE} (it : Addr) (hod : o.data = .dict es ep) : Turn P w K tg (Itx w d o l) [it] it (fun i h => h.IsKeyIter it d i l.length ep) where
  mem := List.mem_singleton.mpr rfl
  obj := fun i h st b hb => by
    cases List.mem_singleton.mp hb
    obtain ⟨oi, e, c, dd⟩ := st
    exact ⟨oi, e, fun v z => by rw [dd] at z; cases z⟩
  keep := fun i h h' st k => st.at fun oi e => k it (List.mem_singleton.mpr rfl) oi e
  item := by
    intro X hP hw hK hc i pins s σ H E I hf st hg; subst hP hw hK
    obtain ⟨g1, g2⟩ := hg; obtain ⟨f0, f1, f2, f3, f4, f5⟩ := hf it (List.mem_singleton.mpr rfl)
    obtain ⟨q1, q2, q3, es', ep', q4, q5, q6⟩ := frzX I g1
    obtain ⟨rfl, rfl⟩ := dict_ep hod q4
    obtain ⟨en, en1, en2⟩ := q6 i _ (List.getElem?_eq_getElem g2)
    refine next_key_item st q2 q4 q5 en1 fun g st' sb => ?_
    have I1 : Inv X pins σ H { s with heap := g } := I.turned (t' := s.toks) (fun b ob hb e => (sb.2 b hb).trans e) f0 f1 f3 f4 f5
    obtain ⟨oi, e, c, dd⟩ := id st'
    exact ⟨en.key, rfl, go_of (s := { s with heap := g }) e c dd (by decide) ⟨.ref l[i].2.1, H, I1, en2, ⟨rfl, _, List.getElem?_eq_getElem g2, rfl⟩, st', fun b hb => (hf b hb).1⟩⟩
  done := by
    intro X hP hw hK hc i pins s σ H E I hf st hg; subst hP hw hK
    obtain ⟨g1, g2⟩ := hg; obtain ⟨f0, f1, f2, f3, f4, f5⟩ := hf it (List.mem_singleton.mpr rfl)
    obtain ⟨q1, q2, q3, es', ep', q4, q5, q6⟩ := frzX I g1
    obtain ⟨rfl, rfl⟩ := dict_ep hod q4
    exact next_key_end (I.ok.hd hc) st q2 q4 q5 g2 fun g eb => ⟨rfl, I.turned (t' := s.toks) (fun b ob hb e => eb b ob hb e) f0 f1 f3 f4 f5⟩
  self := fun A i s Q E st h => wpAny_pyIter_keyiter st h
end GX

namespace DL
open PySem PySem.Spec PyProof.Rows L2 GX
/-- slot i is set apart: nobody stores it, nobody reads it -/
def Slots.hide (W : Slots) (i : Nat) : Slots := { W with own := W.own.filter (fun j => j != i), fx := i :: W.fx, scr := none }
def Act.hide (A : Act) (i : Nat) (d : Addr) (o : HO) : Act := { A with own := A.own.filter (fun j => j != i), fix := (i, .ref d) :: A.fix, H0 := upd A.H0 d o, ex := fun a => A.ex a ∨ a = d }
section
variable {A : Act} {W : Slots} {ρ : Env} {s s' : Src} {σ : L2.St} {H H1 : Hp} {i : Nat} {d : Addr} {u : HO} {od : Obj} {kvs : List (D × D)}
theorem Act.hide_of (h : A.Of W) : (A.hide i d u).Of (W.hide i) where
  own := by show A.own.filter _ = W.own.filter _; rw [h.own]
  fx := by show i :: A.fix.map (·.1) = i :: W.fx; rw [h.fx]
  n := h.n
  sl := fun j e => by
    obtain ⟨p, h1, h2⟩ := h.sl j e
    exact ⟨p, h1, List.mem_cons_of_mem _ h2⟩
  tb := h.tb
  scr := fun j ns z => by cases z
theorem hide_own {j : Nat} : j ∈ (A.hide i d u).own ↔ j ∈ A.own ∧ j ≠ i := by
  show j ∈ A.own.filter (fun j => j != i) ↔ _
  rw [List.mem_filter]
  simp
theorem hide_root (hi : i ∈ A.own) (hd : σ[i]? = some (some (.ref d))) {a : Addr} : IsRoot A σ a ↔ IsRoot (A.hide i d u) σ a ∨ a = d := by
  constructor
  · rintro ⟨j, h1, h2⟩
    by_cases e : j = i
    · subst e
      rw [hd] at h2
      cases h2
      exact .inr rfl
    · exact .inl ⟨j, hide_own.mpr ⟨h1, e⟩, h2⟩
  · rintro (⟨j, h1, h2⟩ | rfl)
    · exact ⟨j, (hide_own.mp h1).1, h2⟩
    · exact ⟨i, hi, hd⟩
theorem hide_fre (hi : i ∈ A.own) (hd : σ[i]? = some (some (.ref d))) {v : HO} : Same (fre A σ H) (fre (A.hide i d u) σ (upd H d v)) := fun a o h => by
  obtain ⟨n1, n2⟩ := fre_no h
  have nd : a ≠ d := fun e => n1 ((hide_root (u := u) hi hd).mpr (.inr e))
  exact fre_of (by rw [upd_ne nd]; exact fre_same a o h) (fun z => n1 ((hide_root hi hd).mpr (.inl z))) fun z => z.elim n2 nd
theorem show_fre (hi : i ∈ A.own) (hd : σ[i]? = some (some (.ref d))) {v : HO} : Same (fre (A.hide i d v) σ H) (fre A σ (upd H d u)) := fun a o h => by
  obtain ⟨n1, n2⟩ := fre_no h
  have nd : a ≠ d := fun e => n2 (.inr e)
  exact fre_of (by rw [upd_ne nd]; exact fre_same a o h) (fun z => ((hide_root (u := v) hi hd).mp z).elim n1 nd) fun z => n2 (.inl z)
theorem set_none_get {j : Nat} {e : D} (h : (ρ.set i none)[j]? = some (some e)) : j ≠ i ∧ ρ[j]? = some (some e) := by
  by_cases q : j = i
  · subst q
    rw [List.getElem?_set] at h
    split at h
    · split at h <;> cases h
    · rename_i n; exact absurd rfl n
  · rw [List.getElem?_set_ne (fun z => q z.symm)] at h
    exact ⟨q, h⟩
theorem Rel.hide (R : Rel A ρ s σ H) (hi : i ∈ A.own) (hd : σ[i]? = some (some (.ref d))) (hl : i < ρ.length) : Rel (A.hide i d (.frz od u)) (ρ.set i none) s σ (upd H d (.frz od u)) := by
  obtain ⟨r1, r2, ro, r3⟩ := R.root i d hi hd
  have nd : ∀ {a}, A.H0 a ≠ none → a ≠ d := fun h e => h (by rw [e]; exact r1)
  have sm : Same (fre A σ H) (fre (A.hide i d (.frz od u)) σ (upd H d (.frz od u))) := hide_fre hi hd
  refine ⟨by rw [List.length_set]; exact R.len, by rw [List.length_set]; exact R.nl, fun a o h n => ?_, fun p h => ?_, fun a h => ?_, fun p h => ?_, fun j e h n => ?_, fun j e h n => ?_, fun j p n h => ?_, fun j k p n m h h2 => ?_, fun p h => ?_⟩
  · by_cases e : a = d
    · subst e
      rw [upd_same]
      have h : upd A.H0 a (.frz od u) a = some o := h
      rw [upd_same] at h
      exact h
    · rw [upd_ne e]
      have h : upd A.H0 d (.frz od u) a = some o := h
      rw [upd_ne e] at h
      exact R.keep a o h n
  · obtain ⟨a1, a2, a3⟩ := R.src p h
    exact ⟨by rw [upd_ne (nd a2)]; exact a1, by show upd A.H0 d _ p ≠ none; rw [upd_ne (nd a2)]; exact a2, .inl a3⟩
  · by_cases e : a = d
    · subst e; exact ⟨_, upd_same⟩
    · obtain ⟨o, q⟩ := R.exin a (h.resolve_right e)
      exact ⟨o, by rw [upd_ne e]; exact q⟩
  · rcases List.mem_cons.mp h with z | z
    · subst z
      exact ⟨hd, fun z => (hide_own.mp z).2 rfl, by rw [List.getElem?_set_self hl]⟩
    · obtain ⟨a1, a2, a3⟩ := R.fix p z
      have ne : p.1 ≠ i := fun e => a2 (by rw [e]; exact hi)
      exact ⟨a1, fun z => a2 (hide_own.mp z).1, by rw [List.getElem?_set_ne (fun z => ne z.symm)]; exact a3⟩
  · obtain ⟨ne, h⟩ := set_none_get h
    obtain ⟨v, h1, h2⟩ := R.val j e h fun z => n (hide_own.mpr ⟨z, ne⟩)
    exact ⟨v, h1, h2.mono sm⟩
  · obtain ⟨ne, h⟩ := set_none_get h
    obtain ⟨p, o, h1, h2, h3⟩ := R.ownv j e h (hide_own.mp n).1
    have np : p ≠ d := fun z => ne (R.inj j i p (hide_own.mp n).1 hi h1 (by rw [z]; exact hd))
    exact ⟨p, o, h1, by rw [upd_ne np]; exact h2, h3.mono sm⟩
  · obtain ⟨n1, n2⟩ := hide_own.mp n
    obtain ⟨a1, a2, o, a3⟩ := R.root j p n1 h
    have np : p ≠ d := fun z => n2 (R.inj j i p n1 hi h (by rw [z]; exact hd))
    exact ⟨by show upd A.H0 d _ p = none; rw [upd_ne np]; exact a1, fun z => z.elim a2 np, o, by rw [upd_ne np]; exact a3⟩
  · exact R.inj j k p (hide_own.mp n).1 (hide_own.mp m).1 h h2
  · obtain ⟨t, u1, u2⟩ := R.tabs p h
    exact ⟨t.keep fun o e => by rw [upd_ne (nd u1)]; exact e, by show upd A.H0 d _ p ≠ none; rw [upd_ne (nd u1)]; exact u1, .inl u2⟩
/-- .. and back -/
theorem Rel.unhide (R : Rel A ρ s σ H) (hi : i ∈ A.own) (hd : σ[i]? = some (some (.ref d))) (hk : ρ[i]? = some (some (.dict kvs))) (hH : H d = some u) (ho : HasO A.K A.w (fre A σ H) d u (.dict kvs))
    (R1 : Rel (A.hide i d (.frz od u)) (ρ.set i none) s' σ H1) (k1 : Kp (A.hide i d (.frz od u)) (upd H d (.frz od u)) H1) : Rel A ρ s' σ (upd H1 d u) ∧ Kp A H (upd H1 d u) := by
  obtain ⟨r1, r2, ro, r3⟩ := R.root i d hi hd
  have nd : ∀ {a}, A.H0 a ≠ none → a ≠ d := fun h e => h (by rw [e]; exact r1)
  have h0 : ∀ {a}, a ≠ d → (A.hide i d (.frz od u)).H0 a = A.H0 a := fun e => upd_ne e
  have sm : Same (fre (A.hide i d (.frz od u)) σ H1) (fre A σ (upd H1 d u)) := show_fre hi hd
  have kk : Kp A H (upd H1 d u) := fun a o h n => by
    by_cases e : a = d
    · subst e; rw [upd_same]; exact hH.symm.trans h
    · rw [upd_ne e]
      exact k1 a o (by rw [upd_ne e]; exact h) n
  have get : ∀ {j e}, ρ[j]? = some (some e) → j ≠ i → (ρ.set i none)[j]? = some (some e) := fun h ne => by rw [List.getElem?_set_ne (fun z => ne z.symm)]; exact h
  refine ⟨⟨R.len, R.nl, fun a o h n => kk a o (R.keep a o h n) n, fun p h => ?_, fun a h => ?_, R.fix, fun j e h n => ?_, fun j e h n => ?_, fun j p n h => ?_, R.inj, fun p h => ?_⟩, kk⟩
  · obtain ⟨a1, a2, a3⟩ := R1.src p h
    obtain ⟨b1, b2, b3⟩ := R.src p h
    exact ⟨by rw [upd_ne (nd b2)]; exact a1, b2, b3⟩
  · have ne : a ≠ d := fun e => r2 (by rw [← e]; exact h)
    obtain ⟨o, q⟩ := R1.exin a (.inl h)
    exact ⟨o, by rw [upd_ne ne]; exact q⟩
  · have ne : j ≠ i := fun e => n (by rw [e]; exact hi)
    obtain ⟨v, h1, h2⟩ := R1.val j e (get h ne) fun z => n (hide_own.mp z).1
    exact ⟨v, h1, h2.mono sm⟩
  · by_cases e' : j = i
    · subst e'
      rw [hk] at h
      cases h
      refine ⟨d, u, hd, upd_same, ho.mono fun a o q => ?_⟩
      obtain ⟨n1, n2⟩ := fre_no q
      have ne : a ≠ d := fun e => n1 ⟨j, hi, by rw [e]; exact hd⟩
      exact fre_of (kk a o (fre_same a o q) fun z => n2 (R.mvEx z)) n1 n2
    · obtain ⟨p, o, h1, h2, h3⟩ := R1.ownv j e (get h e') (hide_own.mpr ⟨n, e'⟩)
      have np : p ≠ d := fun z => e' (R.inj j i p n hi h1 (by rw [z]; exact hd))
      exact ⟨p, o, h1, by rw [upd_ne np]; exact h2, h3.mono sm⟩
  · by_cases e' : j = i
    · subst e'
      rw [hd] at h
      cases h
      exact ⟨r1, r2, u, upd_same⟩
    · obtain ⟨a1, a2, o, a3⟩ := R1.root j p (hide_own.mpr ⟨n, e'⟩) h
      have np : p ≠ d := fun z => a2 (.inr z)
      exact ⟨by rw [← h0 np]; exact a1, fun z => a2 (.inl z), o, by rw [upd_ne np]; exact a3⟩
  · obtain ⟨t, u1, u2⟩ := R1.tabs p h
    obtain ⟨_, v1, v2⟩ := R.tabs p h
    exact ⟨t.keep fun o e => by rw [upd_ne (nd v1)]; exact e, v1, v2⟩
end
def fLcX (i : Nat) (set : D → Env → Option Env) (t : FT) (fe : FE) (vs : List Nat) : FE := fun ρ s => match ρ.getD i none with
  | some (.dict kvs) => if marked kvs = true then none else fLc (fun _ s => some (kvs.map (·.1), s)) set t fe vs (ρ.set i none) s
  | _ => none
theorem upd_swap {H : Hp} {a b : Addr} {o u : HO} (h : a ≠ b) : upd (upd H a o) b u = upd (upd H b u) a o := by
  funext c
  by_cases e : c = a
  · subst e; rw [upd_ne h, upd_same, upd_same]
  · by_cases e2 : c = b
    · subst e2; rw [upd_same, upd_ne e, upd_same]
    · rw [upd_ne e2, upd_ne e, upd_ne e, upd_ne e2]
section
variable {X : Cx} {own : Slots} {tg elt : Expr} {ifs : List Expr} {js : List Nat} {set : D → Env → Option Env} {fe : FE} {t : FT} {pos p0 : Pos} {scope : Scope} {cv : List (Str × Nat)} {x0 : Str}
/-- [.. for k in d ..], d an own dict with tuple keys -/
theorem pf_lcX (i : Nat) (ok : BlkOk X.N X.env.scope scope cv)
    (hg : ∀ (s : Shared) (H : Hp) (C : Addr) (cl : List (Str × Addr)) (fp : List Addr), PGD (X.blk s H scope (compEnvC scope cl C X.env) fp) (own.hide i) tg js set)
    (ht : ∀ (s : Shared) (H : Hp) (C : Addr) (cl : List (Str × Addr)) (fp : List Addr), PTsD (X.blk s H scope (compEnvC scope cl C X.env) fp) (own.hide i) ifs t)
    (he : ∀ (s : Shared) (H : Hp) (C : Addr) (cl : List (Str × Addr)) (fp : List Addr), PD (X.blk s H scope (compEnvC scope cl C X.env) fp) (own.hide i) elt fe)
    (hio : own.own.contains i = true := by rfl) (hNi : X.N[i]? = some x0 := by rfl) (hvis : Vis X.env.scope x0 := by first | exact Or.inl rfl | exact Or.inr (Or.inl rfl) | exact Or.inr (Or.inr rfl)) (hd : (x0 == ("__debug__" : Str)) = false := by decide) (hcd : (x0 == ("__classdict__" : Str)) = false := by decide)
    (hv : cvOk (own.hide i) (cv.map (·.2)) js = true := by decide) (hc : X.calm = true := by rfl) (hN : X.N.Nodup := by assumption) (hs : ∀ x, foldedSetIterable (.Name x0 p0) X.env x = pure x := by intro _; rfl) :
    PF X own (.ListComp elt [⟨tg, .Name x0 p0, ifs, 0⟩] scope pos) (fLcX i set t fe (cv.map (·.2))) := by
  refine ⟨fun A hk hw => ?_⟩
  have hio' : i ∈ A.own := hw.isown hio
  have pe : ∀ (d : Addr) (od : Obj) (l : List XE), ¬ A.mv d → PE X (.ListComp elt [⟨tg, .Name x0 p0, ifs, 0⟩] scope pos) fun σ H Q =>
      (σ[i]? = some (some (.ref d)) ∧ KeysIn A.K (fre (A.hide i d (.frz od (dxO A.w d l))) σ H) l) ∧ tF (A.hide i d (.frz od (dxO A.w d l))) (fLc (fun _ s => some (l.map fun e => tkeyD e.1, s)) set t fe (cv.map (·.2))) σ H Q := by
    intro d od l hmv
    refine lc_run (b := false) (A.hide i d (.frz od (dxO A.w d l))) hk (Act.hide_of hw) (fun σ H => σ[i]? = some (some (.ref d)) ∧ KeysIn A.K (fre (A.hide i d (.frz od (dxO A.w d l))) σ H) l) ?_ ok hg ht he hv hc hN hs
    refine ⟨fun pins s σ H R I ⟨⟨hP, hK⟩, ρ, s0, items, s', R0, h0, q⟩ => ?_⟩
    cases h0
    refine thn ((pe_var hNi hvis hd hcd).run pins s σ H (fun v H1 => v = .ref d ∧ H = H1) I ⟨_, hP, rfl, rfl⟩) ?_
    rintro u s1 ⟨_, _, I1, r1, rfl, rfl⟩
    obtain rfl : u = Value.ref d := r1
    have hH : H d = some (.frz od (dxO X.w d l)) := by
      rw [← hk.2]
      exact R0.keep d _ upd_same hmv
    obtain ⟨q1, q2, q3, es, ep, q4, q5, q6⟩ := frzX I1 hH
    refine iter_keys q1 q2 q3 q4 (pi_one (tk := s1.toks) I1 _ (turn_keysX (d := d) (l := l) _ q4) ⟨_, Heap.get?_push_size _ rfl, rfl, ?_⟩ ?_)
    · rw [q5] <;> rfl
    · refine q (Itx X.w d od l) (onlyAt d (.frz od (dxO X.w d l))) H R0 (Kp.refl _ _) (fun a o h => ?_) (fun a o h => ?_) (fun z => by cases z) ?_
      · obtain ⟨rfl, rfl⟩ := onlyAt_some h; exact hH
      · obtain ⟨rfl, rfl⟩ := onlyAt_some h; exact hmv
      · have at0 : ∀ {H2 : Hp}, Same (onlyAt d (.frz od (dxO X.w d l))) H2 → H2 d = some (.frz od (dxO X.w d l)) := fun sm => sm d _ (by unfold onlyAt; rw [if_pos rfl])
        refine ⟨fun j H2 hj sm => ⟨at0 sm, by rw [List.length_map] at hj; exact hj⟩, fun H2 sm => ⟨at0 sm, by rw [List.length_map]; exact Nat.le_refl _⟩, fun j H2 x H3 hj sm y => ?_⟩
        obtain ⟨rfl, e, he, rfl⟩ := y
        exact ⟨tkeyD e.1, by rw [List.getElem?_map, he] <;> rfl, .inl ⟨rfl, key_den (hK e (List.mem_of_getElem? he))⟩⟩
  refine PE.imp (t := tLockE fun σ H Q => ∃ (d : Addr) (od : Obj) (l : List XE), ¬ A.mv d ∧ (σ[i]? = some (some (.ref d)) ∧ KeysIn A.K (fre (A.hide i d (.frz od (dxO A.w d l))) σ H) l) ∧ tF (A.hide i d (.frz od (dxO A.w d l))) (fLc (fun _ s => some (l.map fun e => tkeyD e.1, s)) set t fe (cv.map (·.2))) σ H Q)
    (pe_lock ⟨fun pins s σ H Q I ⟨d, od, l, hmv, q⟩ => (pe d od l hmv).run pins s σ H Q I q⟩) ?_
  rintro σ H Q ⟨ρ, s, z, s', R, hf, q⟩
  unfold fLcX at hf
  split at hf
  case h_2 => cases hf
  rename_i kvs h1
  split at hf
  case isTrue => cases hf
  rename_i hm
  have hρ := getD_some h1
  obtain ⟨d, o, e1, e2, e3⟩ := R.ownv i _ hρ hio'
  have e3' := e3
  rcases e3 with ⟨l, r, e0, _⟩ | ⟨l, rfl, z1, z2, z3, z4⟩
  · subst e0; exact absurd rfl hm
  obtain ⟨r1, r2, _⟩ := R.root i d hio' e1
  have hmv : ¬ A.mv d := fun z => r2 (R.mvEx z)
  have hl : i < ρ.length := (List.getElem?_eq_some_iff.mp hρ).1
  refine ⟨d, dxO A.w d l, e2, trivial, fun od => ⟨d, od, l, hmv, ⟨e1, KeysIn.mono z4 (hide_fre hio' e1)⟩, ρ.set i none, s, z, s', R.hide hio' e1 hl, by rw [← z1]; exact hf, fun p H1 o R1 k1 hp ho => ?_⟩⟩
  have hd1 : H1 d = some (.frz od (dxO A.w d l)) := k1 d _ upd_same hmv
  have ne : p ≠ d := fun e => by rw [e, hd1] at hp; cases hp
  obtain ⟨R2, k2⟩ := R.unhide hio' e1 hρ e2 e3' R1 k1
  refine ⟨by rw [upd_ne (Ne.symm ne)]; exact hd1, ?_⟩
  rw [upd_swap ne]
  exact q p _ o R2 k2 (by rw [upd_ne ne]; exact hp) (ho.mono (show_fre hio' e1))
/-- l = [.. for k in d ..] on one line, d an own dict with tuple keys -/
theorem sd_setLcX {y : Str} {py spos : Pos} (j i : Nat) (ok : BlkOk X.N X.env.scope scope cv)
    (hg : ∀ (s : Shared) (H : Hp) (C : Addr) (cl : List (Str × Addr)) (fp : List Addr), PGD (X.blk s H scope (compEnvC scope cl C X.env) fp) (own.hide i) tg js set)
    (ht : ∀ (s : Shared) (H : Hp) (C : Addr) (cl : List (Str × Addr)) (fp : List Addr), PTsD (X.blk s H scope (compEnvC scope cl C X.env) fp) (own.hide i) ifs t)
    (he : ∀ (s : Shared) (H : Hp) (C : Addr) (cl : List (Str × Addr)) (fp : List Addr), PD (X.blk s H scope (compEnvC scope cl C X.env) fp) (own.hide i) elt fe)
    (hji : j ≠ i) (hlen : j < own.n) (hw1 : own.own.contains j = true := by rfl) (hy : X.N[j]? = some y := by rfl) (hyl : X.env.scope.names.lookup y = some .local := by rfl)
    (hsw : swapsWith (.ListComp elt [⟨tg, .Name x0 p0, ifs, 0⟩] scope pos) (some (.Name y py)) spos.line X.env = pure true := by exact sw_true rfl rfl rfl rfl)
    (hio : own.own.contains i = true := by rfl) (hNi : X.N[i]? = some x0 := by rfl) (hvis : Vis X.env.scope x0 := by first | exact Or.inl rfl | exact Or.inr (Or.inl rfl) | exact Or.inr (Or.inr rfl)) (hd : (x0 == ("__debug__" : Str)) = false := by decide) (hcd : (x0 == ("__classdict__" : Str)) = false := by decide)
    (hv : cvOk (own.hide i) (cv.map (·.2)) js = true := by decide) (hc : X.calm = true := by rfl) (hN : X.N.Nodup := by assumption) (hs : ∀ x, foldedSetIterable (.Name x0 p0) X.env x = pure x := by intro _; rfl) :
    SD X own (.Assign [.Name y py] (.ListComp elt [⟨tg, .Name x0 p0, ifs, 0⟩] scope pos) spos) (fSet j (fLcX i set t fe (cv.map (·.2)))) := by
  refine ⟨fun A hk hw => ?_⟩
  have hio' : i ∈ A.own := hw.isown hio
  have pe : ∀ (d : Addr) (od : Obj) (l : List XE), ¬ A.mv d → PS X (.Assign [.Name y py] (.ListComp elt [⟨tg, .Name x0 p0, ifs, 0⟩] scope pos) spos) fun E σ H =>
      (σ[i]? = some (some (.ref d)) ∧ KeysIn A.K (fre (A.hide i d (.frz od (dxO A.w d l))) σ H) l) ∧ tF (A.hide i d (.frz od (dxO A.w d l))) (fLc (fun _ s => some (l.map fun e => tkeyD e.1, s)) set t fe (cv.map (·.2))) σ H fun v H1 => gName j v σ H1 E.nx := by
    intro d od l hmv
    refine slc_run (b := false) (A.hide i d (.frz od (dxO A.w d l))) hk (Act.hide_of hw) (fun σ H => σ[i]? = some (some (.ref d)) ∧ KeysIn A.K (fre (A.hide i d (.frz od (dxO A.w d l))) σ H) l) j hy hyl hsw ?_ ok hg ht he hv hc hN hs
    refine ⟨fun pins s σ H R I ⟨⟨hP, hK⟩, ρ, s0, items, s', R0, h0, q⟩ => ?_⟩
    cases h0
    refine thn ((pe_var hNi hvis hd hcd).run pins s σ H (fun v H1 => v = .ref d ∧ H = H1) I ⟨_, hP, rfl, rfl⟩) ?_
    rintro u s1 ⟨_, _, I1, r1, rfl, rfl⟩
    obtain rfl : u = Value.ref d := r1
    have hH : H d = some (.frz od (dxO X.w d l)) := by
      rw [← hk.2]
      exact R0.keep d _ upd_same hmv
    obtain ⟨q1, q2, q3, es, ep, q4, q5, q6⟩ := frzX I1 hH
    refine iter_keys q1 q2 q3 q4 (pi_one (tk := s1.toks) I1 _ (turn_keysX (d := d) (l := l) _ q4) ⟨_, Heap.get?_push_size _ rfl, rfl, ?_⟩ ?_)
    · rw [q5] <;> rfl
    · refine q (Itx X.w d od l) (onlyAt d (.frz od (dxO X.w d l))) H R0 (Kp.refl _ _) (fun a o h => ?_) (fun a o h => ?_) (fun z => by cases z) ?_
      · obtain ⟨rfl, rfl⟩ := onlyAt_some h; exact hH
      · obtain ⟨rfl, rfl⟩ := onlyAt_some h; exact hmv
      · have at0 : ∀ {H2 : Hp}, Same (onlyAt d (.frz od (dxO X.w d l))) H2 → H2 d = some (.frz od (dxO X.w d l)) := fun sm => sm d _ (by unfold onlyAt; rw [if_pos rfl])
        refine ⟨fun j H2 hj sm => ⟨at0 sm, by rw [List.length_map] at hj; exact hj⟩, fun H2 sm => ⟨at0 sm, by rw [List.length_map]; exact Nat.le_refl _⟩, fun j H2 x H3 hj sm y => ?_⟩
        obtain ⟨rfl, e, he, rfl⟩ := y
        exact ⟨tkeyD e.1, by rw [List.getElem?_map, he] <;> rfl, .inl ⟨rfl, key_den (hK e (List.mem_of_getElem? he))⟩⟩
  refine PS.imp (t := tLock fun E σ H => ∃ (d : Addr) (od : Obj) (l : List XE), ¬ A.mv d ∧ (σ[i]? = some (some (.ref d)) ∧ KeysIn A.K (fre (A.hide i d (.frz od (dxO A.w d l))) σ H) l) ∧ tF (A.hide i d (.frz od (dxO A.w d l))) (fLc (fun _ s => some (l.map fun e => tkeyD e.1, s)) set t fe (cv.map (·.2))) σ H fun v H1 => gName j v σ H1 E.nx)
    (ps_lock ⟨fun pins s σ H E I ⟨d, od, l, hmv, q⟩ => (pe d od l hmv).run pins s σ H E I q⟩) ?_
  rintro E σ H ⟨ρ, s, fl, ρ', s', R, hf, q⟩
  unfold fSet at hf
  cases h0 : fLcX i set t fe (cv.map (·.2)) ρ s with
  | none => rw [h0] at hf; cases hf
  | some zz =>
  obtain ⟨z, s9⟩ := zz
  rw [h0] at hf
  cases hf
  have hf := h0
  unfold fLcX at hf
  split at hf
  case h_2 => cases hf
  rename_i kvs h1
  split at hf
  case isTrue => cases hf
  rename_i hm
  have hρ := getD_some h1
  obtain ⟨d, o, e1, e2, e3⟩ := R.ownv i _ hρ hio'
  have e3' := e3
  rcases e3 with ⟨l, r, e0, _⟩ | ⟨l, rfl, z1, z2, z3, z4⟩
  · subst e0; exact absurd rfl hm
  obtain ⟨r1, r2, _⟩ := R.root i d hio' e1
  have hmv : ¬ A.mv d := fun z => r2 (R.mvEx z)
  have hl : i < ρ.length := (List.getElem?_eq_some_iff.mp hρ).1
  refine ⟨d, dxO A.w d l, e2, trivial, fun od => ⟨d, od, l, hmv, ⟨e1, KeysIn.mono z4 (hide_fre hio' e1)⟩, ρ.set i none, s, z, s9, R.hide hio' e1 hl, by rw [← z1]; exact hf, fun p H1 o R1 k1 hp ho => ?_⟩⟩
  have hd1 : H1 d = some (.frz od (dxO A.w d l)) := k1 d _ upd_same hmv
  have ne : p ≠ d := fun e => by rw [e, hd1] at hp; cases hp
  obtain ⟨R2, k2⟩ := R.unhide hio' e1 hρ e2 e3' R1 k1
  refine ⟨by rw [upd_ne (Ne.symm ne)]; exact hd1, ?_⟩
  rw [upd_swap ne]
  obtain ⟨R3, F3⟩ := R2.setOwn (hw.isown hw1) (by rw [upd_ne ne]; exact hp) (ho.mono (show_fre hio' e1)) (by rw [R2.nl, hw.n]; exact hlen)
  exact q _ _ R3 (k2.fr.trans F3)
end
end DL
/-! d != {}, d == {}: a dict with tuple keys beside a new empty one. -/
namespace GX
open PySem PySem.Spec PyProof.Rows L2
section
variable {prog : Program} {w : World} {A : Around} {E : Value → Shared → Prop} {s : Shared}
theorem pairs_void {nm : String} {a b : Addr} {es es' : Array DictEntry} {ep ep' : Nat} {Q : Bool → Shared → Prop} (ya : (a == sysModules) = false) (yb : (b == sysModules) = false) (ra : DT.Raw s.heap a es ep) (rb : DT.Raw s.heap b es' ep') (h0 : es'.size = 0)
    (h : Q (es.size == 0) s) : wpAny (model prog w) A (Builtin.Dict.samePairs nm a b) Q E s := by
  obtain ⟨oa, ga, _, da⟩ := ra; obtain ⟨ob, gb, _, db⟩ := rb
  unfold Builtin.Dict.samePairs Builtin.Dict.showsAll
  rw [if_neg (by rw [ya]; exact Bool.false_ne_true), if_neg (by rw [yb]; exact Bool.false_ne_true)]
  refine wpAny_bind (wpAny_pure (wpAny_bind (wpAny_pure (wpAny_bind (wpAny_dictEntries ga da ?_)))))
  dsimp only
  refine wpAny_bind (wpAny_dictEntries gb db ?_)
  by_cases z : es.size = 0
  · rw [if_neg (by rw [z, h0]; simp)]
    refine wpAny_bind (wpAny_dictEpoch ga da (wpAny_bind ?_))
    rw [Std.Legacy.Range.forIn_eq_forIn_range']
    simp only [Std.Legacy.Range.size, Nat.sub_zero, Nat.add_sub_cancel, Nat.div_one]
    rw [z]
    simp only [List.range'_zero, List.forIn_nil]
    rw [z] at h
    exact wpAny_pure (wpAny_pure h)
  · rw [if_pos (by rw [h0]; simpa using z)]
    have e : (es.size == 0) = false := by simpa using z
    rw [e] at h
    exact wpAny_bind (wpAny_rule (wpAny_pure h))
/-- the machine's == and != of two such dicts, the second empty -/
theorem cmp_void {a b : Addr} {es es' : Array DictEntry} {ep ep' : Nat} {Q : Value → Shared → Prop} (ya : (a == sysModules) = false) (yb : (b == sysModules) = false) (ra : DT.Raw s.heap a es ep) (rb : DT.Raw s.heap b es' ep') (h0 : es'.size = 0) (hu : A.units < cLine) (neg : Bool)
    (h : Q (.bool (if neg = true then !(es.size == 0) else es.size == 0)) s) : wpAny (model prog w) A (compareOp (if neg = true then .NotEq else .Eq) (.ref a) (.ref b)) Q E s := by
  have ta := ra.typeIs
  have tb := rb.typeIs
  cases neg with
  | true =>
    refine wpAny_richCompare_same_room (op := .NotEq) ta tb F.slot_dict_ne (wpAny_call_entry F.slot_dict_ne ta F.entry_dict_ne ?_ (F.args_dict_ne_2 _ _)) hu
    show wpAny _ _ (Builtin.Dict.dictSlotArgs "__ne__" ⟨[.ref a, .ref b], []⟩ >>= _) _ _ s
    unfold Builtin.Dict.dictSlotArgs
    refine wpAny_bind (wpAny_bind (wpAny_notOrdered_dict ta (wpAny_pure (wpAny_bind (wpAny_isInstance (T := "dict") tb F.sub_dict_dict ?_)))))
    simp only [Bool.not_true, Bool.false_eq_true, if_false]
    refine wpAny_bind (wpAny_pure (wpAny_bind (wpAny_pure (wpAny_bind (pairs_void ya yb ra rb h0 (wpAny_pure ⟨_, rfl, (fun x => nomatch x), ?_⟩))))))
    simpa using h
  | false =>
    refine wpAny_richCompare_same_room (op := .Eq) ta tb F.slot_dict_eq (wpAny_call_entry F.slot_dict_eq ta F.entry_dict_eq ?_ (F.args_dict_eq_2 _ _)) hu
    show wpAny _ _ (Builtin.Dict.dictSlotArgs "__eq__" ⟨[.ref a, .ref b], []⟩ >>= _) _ _ s
    unfold Builtin.Dict.dictSlotArgs
    refine wpAny_bind (wpAny_bind (wpAny_notOrdered_dict ta (wpAny_pure (wpAny_bind (wpAny_isInstance (T := "dict") tb F.sub_dict_dict ?_)))))
    simp only [Bool.not_true, Bool.false_eq_true, if_false]
    refine wpAny_bind (wpAny_pure (wpAny_bind (wpAny_pure (wpAny_bind (pairs_void ya yb ra rb h0 (wpAny_pure ⟨_, rfl, (fun x => nomatch x), ?_⟩))))))
    simpa using h
end
section
variable {X : Cx} {pins : List (Addr × Obj)} {σ : L2.St} {H : Hp} {s : Shared}
theorem raw_of (I : Inv X pins σ H s) {a : Addr} {l : List XE} (e : Rd H a (dxO X.w a l)) : (a == sysModules) = false ∧ ∃ es ep, DT.Raw s.heap a es ep ∧ es.size = l.length := by
  obtain ⟨h1, h2, xs, h3, h4, o, es, ep, h5, h6, h7, h8⟩ := dx_rd I.hok e
  refine ⟨h1, es, ep, ⟨o, h5, h6, h7⟩, ?_⟩
  have ek : es.toList.map (·.key) = l.map fun e => Value.ref e.2.1 := by rw [h8 X.prog]; exact keys_of h3
  have := congrArg List.length ek
  rw [List.length_map, List.length_map, Array.length_toList] at this
  exact this
def rVoid (w : World) (neg : Bool) : R2 := fun x y H Q => ∃ (a b : Addr) (l : List XE), x = .ref a ∧ y = .ref b ∧ Rd H a (dxO w a l) ∧ Rd H b (dxO w b []) ∧ Q (.bl (if neg = true then !(l.length == 0) else l.length == 0)) H
theorem op_void (neg : Bool) (hu : X.A.units < cLine) : OpR X (compareOp (if neg = true then .NotEq else .Eq)) (rVoid X.w neg) := by
  intro pins s σ H x y v u Q I rx ry h
  obtain ⟨a, b, l, rfl, rfl, g1, g2, q⟩ := h
  obtain rfl : v = Value.ref a := rx
  obtain rfl : u = Value.ref b := ry
  obtain ⟨y1, es, ep, r1, z1⟩ := raw_of I g1
  obtain ⟨y2, es2, ep2, r2, z2⟩ := raw_of I g2
  exact cmp_void y1 y2 r1 r2 z2 hu neg ⟨.bl _, H, I, by rw [z1]; rfl, q⟩
end
end GX

namespace DL
open PySem PySem.Spec PyProof.Rows L2 GX
section
variable {X : Cx}
/-- d != {}, d == {} -/
def dVoid (neg : Bool) : D → D → Option D
  | .dict kvs, .dict [] => if marked kvs = true then none else some (.bool (if neg = true then !(kvs.length == 0) else kvs.length == 0))
  | _, _ => none
theorem bn_void (neg : Bool) : BinR X (rVoid X.w neg) (dVoid neg) := fun A ρ s σ H v w d e z Q hk R t1 t2 hz q => by
  unfold dVoid at hz
  split at hz
  case h_2 => cases hz
  rename_i kvs
  split at hz
  case isTrue => cases hz
  rename_i hm
  cases hz
  obtain ⟨a, l, rfl, hx, xd, _⟩ := Top.dictX hk t1 (by simpa using hm)
  obtain ⟨b, l2, rfl, hx2, xd2, _⟩ := Top.dictX hk t2 rfl
  cases xd2
  exact ⟨a, b, l, rfl, rfl, hx.1, hx2.1, q _ H (Same.refl H) (by rw [xd.length]; exact .bl _)⟩
end
end DL
/-! < of data that is ints, texts and tuples of such; constants of the module; what is never reached. -/
namespace DL
open PySem PySem.Spec PyProof.Rows L2 GX Ord
section
variable {X : Cx}
def rLtD (K : PySem.W.Frag) : R2 := fun x y H Q => ∃ d e, Dp K H x d ∧ Dp K H y e ∧ okD d = true ∧ okD e = true ∧ cmpD d e = true ∧ Q (.bl (ltD d e)) H
theorem op_ltD (hu : X.A.units + 64 < cLine) : OpR X (compareOp .Lt) (rLtD X.K) := by
  intro pins s σ H x y v u Q I rx ry h
  obtain ⟨d, e, hd, he, o1, o2, c, q⟩ := h
  obtain ⟨as, r1⟩ := Dp.reads I d x v hd rx
  obtain ⟨bs, r2⟩ := Dp.reads I e y u he ry
  obtain ⟨x1, x2, x3⟩ := okD_iff.mp o1
  obtain ⟨y1, y2, y3⟩ := okD_iff.mp o2
  exact lt_reads d e X.A s v u as bs r1 r2 x2 y2 c (by omega) X.prog X.w _ _ ⟨.bl _, H, I, rfl, q⟩
def dLtD : D → D → Option D := fun d e => if okD d = true ∧ okD e = true ∧ cmpD d e = true then some (.bool (ltD d e)) else none
theorem okD_nol {d : D} (h : okD d = true) : (∀ ds, d ≠ .list ds) ∧ ∀ kvs, d ≠ .dict kvs := by
  obtain ⟨x1, _⟩ := okD_iff.mp h
  exact ⟨fun ds e => by rw [e] at x1; simp [od] at x1, fun kvs e => by rw [e] at x1; simp [od] at x1⟩
theorem bn_ltD : BinR X (rLtD X.K) dLtD := fun A ρ s σ H v w d e z Q hk R t1 t2 hz q => by
  unfold dLtD at hz
  split at hz
  case isFalse => cases hz
  rename_i hc
  cases hz
  refine ⟨d, e, ?_, ?_, hc.1, hc.2.1, hc.2.2, q _ H (Same.refl H) (.bl _)⟩
  · rw [← hk.1]
    exact (t1.den (okD_nol hc.1).2).dp
  · rw [← hk.1]
    exact (t2.den (okD_nol hc.2.1).2).dp
/-- what is never reached -/
def fNo : FS := fun _ _ => none
theorem sd_no {own : Slots} {st : Stmt} : SD X own st fNo := ⟨fun A hk hw => ⟨fun pins s σ H D I ⟨ρ, s0, fl, ρ', s', R, hf, q⟩ => by cases hf⟩⟩
theorem sds_no {own : Slots} {st : List Stmt} : SDs X own st fNo := ⟨fun A hk hw => ⟨fun pins s σ H D I ⟨ρ, s0, fl, ρ', s', R, hf, q⟩ => by cases hf⟩⟩
end
theorem _root_.GX.FnG.weak {P : Program} {w : World} {K : PySem.W.Frag} {mg : Str → Option Value} {base : Heap} {CX : CXT} {k : Nat} {f : Addr} {fd : FuncData} {ps : List Str} {sp sp' : Sp} (F : FnG P w K mg base CX k f fd ps sp) (h : ∀ vs H Q E, sp' vs H Q E → sp vs H Q E) : FnG P w K mg base CX k f fd ps sp' :=
  { len := fun vs H Q E q => F.len vs H Q E (h vs H Q E q), run := fun r e hb vu q => F.run r e hb vu (h _ _ _ _ q) }
/-- a def that is not handed the source: what it gives does not hang on it -/
theorem fn_pure {P : Program} {w : World} {K : PySem.W.Frag} {mg : Str → Option Value} {base : Heap} {CX : CXT} {k n : Nat} {f : Addr} {fd : FuncData} {ps : List Str} {T : Addr → Prop} {G : GFun} (F : FnG P w K mg base CX k f fd ps (spU K T false n G)) :
    FnG P w K mg base CX k f fd ps (spU K T false n (pure1 fun ds => (G ds (0, 0, 0)).map (·.1))) :=
  F.weak fun vs H Q E ⟨src, ws, F0, ds, s, d, s', h1, h2, h3, h4, h5, h6, h7⟩ => by
    unfold pure1 at h5
    dsimp only at h5
    cases h : G ds (0, 0, 0) with
    | none => rw [h] at h5; cases h5
    | some x =>
      rw [h] at h5
      cases h5
      have hs : src = none ∧ vs = ws := h2
      obtain ⟨rfl, rfl⟩ := hs
      exact ⟨none, vs, F0, ds, (0, 0, 0), x.1, x.2, h1, ⟨rfl, rfl⟩, h3, h4, h, h6, fun v H' F' g1 g2 g3 g4 g5 g6 g7 => h7 v H' F' (fun p e => by cases e) g2 g3 g4 g5 g6 g7⟩
end DL
/-! The script: a list of whole numbers that nobody changes; the source that a def makes anew. -/
namespace DL
open PySem PySem.Spec PyProof.Rows L2 GX
theorem _root_.L2.SqL.keep {K : PySem.W.Frag} {H H' : Hp} {a : Addr} {xs : List V} (h : SqL K H a xs) (k : ∀ o, H a = some o → H' a = some o) : SqL K H' a xs := by
  rcases h with (h | ⟨o, h⟩) | h
  · exact .inl (.inl (k _ h))
  · exact .inl (.inr ⟨o, k _ h⟩)
  · exact .inr h
section
variable {A : Act} {W : Slots} {ρ : Env} {s : Src} {σ : L2.St} {H : Hp} {i : Nat} {ns : List Int}
theorem scr_at (hw : A.Of W) (hs : W.scr = some (i, ns)) (R : Rel A ρ s σ H) : ∃ a, σ[i]? = some (some (.ref a)) ∧ SqL A.K H a (ns.map V.int) := by
  obtain ⟨a, h1, h2, h3, _⟩ := hw.scr i ns hs
  exact ⟨a, (R.fix _ h1).1, h2.keep fun o e => R.keep a o e h3⟩
theorem den_ints {K : PySem.W.Frag} {F : Hp} : ∀ ns : List Int, DenAll K F (ns.map V.int) (ns.map PyData.int)
  | [] => .nil
  | n :: ns => .cons (.int n) (den_ints ns)
end
section
variable {X : Cx} {own : Slots} {e : Expr} {fe : FE} {pos p2 : Pos} {i : Nat} {ns : List Int} {x0 x : Str} {p0 p : Pos}
/-- len(script) -/
theorem pd_scrLen (i : Nat) (hsc : own.scr = some (i, ns)) (hm : X.mg "len" = none) (hN : X.N[i]? = some x0 := by rfl) (hv : Vis X.env.scope x0 := by first | exact Or.inl rfl | exact Or.inr (Or.inl rfl) | exact Or.inr (Or.inr rfl)) (hd : (x0 == ("__debug__" : Str)) = false := by decide) (hcd : (x0 == ("__classdict__" : Str)) = false := by decide)
    (hg : Gl X "len" := by rfl) (he : starEach [.Name x0 p0] X.env = [(false, eval (.Name x0 p0) X.env)] := by rfl) : PD X own (.Call (.Name "len" p) [.Name x0 p0] [] pos) (fC (.int ns.length)) :=
  ⟨fun A hK hw => (pe_callB call_len hg hm rfl (pa_cons (pe_var hN hv hd hcd) pa_nil he) (by decide) (by decide) he rfl).imp fun σ H Q ⟨ρ, s, d, s', R, hf, q⟩ => by
    cases hf
    obtain ⟨a, h1, h2⟩ := scr_at hw hsc R
    rw [hK.1] at h2
    exact ⟨.ref a, h1, .ref a, _, rfl, .inl ⟨_, h2, List.length_map _ |>.symm⟩, q _ H R (DL.Kp.refl _ _) (.int _)⟩⟩
def fScr (ns : List Int) (fe : FE) : FE := fun ρ s => (fe ρ s).bind fun x => match x.1 with
  | .int i => (atI ns i).map fun v => (.int v, x.2)
  | _ => none
theorem atI_map {α β : Type} {f : α → β} {xs : List α} {i : Int} {z : α} (h : atI xs i = some z) : atI (xs.map f) i = some (f z) := by
  unfold atI at h ⊢
  rw [List.length_map]
  cases e : ixN xs.length i with
  | none => rw [e] at h; cases h
  | some j =>
    rw [e, Option.bind_some] at h
    rw [Option.bind_some, List.getElem?_map, h]; rfl
/-- script[e] -/
theorem pd_scrIx (i : Nat) (hsc : own.scr = some (i, ns)) (hb : PD X own e fe) (hN : X.N[i]? = some x0 := by rfl) (hv : Vis X.env.scope x0 := by first | exact Or.inl rfl | exact Or.inr (Or.inl rfl) | exact Or.inr (Or.inr rfl)) (hd : (x0 == ("__debug__" : Str)) = false := by decide) (hcd : (x0 == ("__classdict__" : Str)) = false := by decide)
    (hs : PlainIx e := by intro _ _; rfl) : PD X own (.Subscript (.Name x0 p0) e pos) (fScr ns fe) :=
  ⟨fun A hK hw => (pe_ix ix_list (pe_var hN hv hd hcd) (hb.run A hK hw) hs).imp fun σ H Q ⟨ρ, s, d, s', R, hf, q⟩ => by
    obtain ⟨a, h1, h2⟩ := scr_at hw hsc R
    unfold fScr at hf
    cases h0 : fe ρ s with
    | none => rw [h0] at hf; cases hf
    | some y =>
      obtain ⟨d1, s1⟩ := y
      rw [h0, Option.bind_some] at hf
      cases d1 <;> try (cases hf; done)
      rename_i j
      simp only at hf
      cases h3 : atI ns j with
      | none => rw [h3] at hf; cases hf
      | some v =>
        rw [h3] at hf
        cases hf
        refine ⟨.ref a, h1, ρ, s, .int j, s', R, h0, fun u H1 R1 k1 t1 => ?_⟩
        cases t1
        obtain ⟨a', g1, g2⟩ := scr_at hw hsc R1
        rw [h1] at g1
        cases g1
        rw [hK.1] at g2
        exact ⟨a, ns.map V.int, j, .int v, rfl, rfl, g2, atI_map h3, q _ H1 R1 k1 (.int v)⟩⟩
/-- script[lo:hi] -/
theorem pf_scrSl {ol oh : Option Expr} {gl gh : FO} (i : Nat) (hsc : own.scr = some (i, ns)) (hl : POD X own ol gl) (hh : POD X own oh gh) (hN : X.N[i]? = some x0 := by rfl) (hv : Vis X.env.scope x0 := by first | exact Or.inl rfl | exact Or.inr (Or.inl rfl) | exact Or.inr (Or.inr rfl)) (hd : (x0 == ("__debug__" : Str)) = false := by decide) (hcd : (x0 == ("__classdict__" : Str)) = false := by decide) :
    PF X own (.Subscript (.Name x0 p0) (.Slice ol oh none p2) pos) (fSl dSlL (fC (.list (ns.map PyData.int))) gl gh) :=
  ⟨fun A hK hw => (pe_slice sl_list (pe_var hN hv hd hcd) (hl.run A hK hw) (hh.run A hK hw)).imp fun σ H Q ⟨ρ, s, z, s', R, hf, q⟩ => by
    obtain ⟨d, s1, l, s2, u, h1, h2, h3, h4⟩ := fSl_some hf
    cases h1
    obtain ⟨a, g1, _⟩ := scr_at hw hsc R
    refine ⟨.ref a, g1, ρ, s, l, s2, R, h2, fun H2 R2 k2 => ⟨ρ, s2, u, s', R2, h3, fun H3 R3 k3 => ?_⟩⟩
    cases h4
    obtain ⟨a', g1', g2⟩ := scr_at hw hsc R3
    rw [g1] at g1'
    cases g1'
    rw [hK.1] at g2
    exact ⟨a, ns.map V.int, rfl, g2, fun p hp => q p H3 _ R3 (k2.trans k3) hp ⟨_, rfl, (den_ints ns).cut l u⟩⟩⟩
end
end DL
/-! Defs that read the script; the source that a def makes anew. -/
namespace DL
open PySem PySem.Spec PyProof.Rows L2 GX
/-- what is new -/
def fresh (H H' : Hp) : Hp := fun b => if (H b).isSome = true then none else H' b
theorem fresh_some {H H' : Hp} {b : Addr} {o : HO} (h : fresh H H' b = some o) : H b = none ∧ H' b = some o := by
  unfold fresh at h
  split at h
  · cases h
  · rename_i n
    exact ⟨by cases e : H b with | none => rfl | some u => rw [e] at n; exact absurd rfl n, h⟩
/-- a def's promise: of the script and of flat data it makes new data -/
def spScr (K : PySem.W.Frag) (T : Addr → Prop) (n : Nat) (G : List Int → List D → Option D) : Sp := fun vs H Q _ => ∃ (a : Addr) (ns : List Int) (ws : List V) (ds : List D) (d : D), vs = .ref a :: ws ∧ vs.length = n ∧ SqL K H a (ns.map V.int) ∧ ¬ T a ∧ DenAll K noHp ws ds ∧ G ns ds = some d ∧ (∀ p, T p → TabG H p) ∧
  ∀ v H', (∀ b o, H b = some o → ¬ T b → H' b = some o) → (∀ p, T p → TabG H' p) → Den K (fresh H H') v d → Q v H'
def fScrFn (n : Nat) (g : List Int → FS) : List Int → List D → Option D := fun ns ds => ((g ns (none :: (ds.map some ++ List.replicate (n - (ds.length + 1)) none)) (0, 0, 0)).bind fnOut).map (·.1)
def slotsS (n : Nat) (own : List Nat) (T : Addr → Prop) (ns : List Int) : Slots := { own := own, fx := [0], n := n, sl := none, tb := T, scr := some (0, ns) }
section
variable {P : Program} {w : World} {K : PySem.W.Frag} {mg : Str → Option Value} {base : Heap} {k : Nat} {f : Addr} {x qual : Str} {st : Stmt} {fd : FuncData} {N ps : List Str} {g : List Int → FS}
theorem rel_startS {own : List Nat} {np : Nat} (ho : ownOk np N.length own = true) (hn : np ≤ N.length) {a : Addr} {ns : List Int} {ws : List V} {H : Hp} {ds : List D} {s : Src} (hl : ws.length + 1 = np) (hq : SqL K H a (ns.map V.int)) {T : Addr → Prop} (hnt : ¬ T a) (hd : DenAll K noHp ws ds) (hT : ∀ p, T p → TabG H p) :
    ∃ A : Act, A.K = K ∧ A.w = w ∧ A.Of (slotsS N.length own T ns) ∧ A.H0 = H ∧ A.src = none ∧ (∀ a, A.ex a ↔ H a ≠ none) ∧
      Rel A (none :: (ds.map some ++ List.replicate (N.length - (ds.length + 1)) none)) s (L2.start N (.ref a :: ws)) H := by
  have hown : ∀ i ∈ own, np ≤ i ∧ i < N.length := fun i hi => by
    have := List.all_eq_true.mp ho i hi
    simpa using this
  have noroot : ∀ i p, i ∈ own → (L2.start N (.ref a :: ws))[i]? ≠ some (some (.ref p)) := fun i p hi h => by
    have h1 := start_get h
    have := (List.getElem?_eq_some_iff.mp h1).1
    have := (hown i hi).1
    simp only [List.length_cons] at *
    omega
  let A : Act := { K := K, own := own, H0 := H, ex := fun a => H a ≠ none, src := none, fix := [(0, .ref a)], n := N.length, w := w, tb := T }
  have rt : ∀ b, ¬ IsRoot A (L2.start N (.ref a :: ws)) b := fun b ⟨i, h1, h2⟩ => noroot i b h1 h2
  have hdl := hd.length
  have smF : Same noHp (fre A (L2.start N (.ref a :: ws)) H) := fun a o h => by cases h
  refine ⟨A, rfl, rfl, ⟨rfl, rfl, rfl, fun i hi => (nomatch hi), rfl, fun i ns' z => ?_⟩, rfl, rfl, fun a => Iff.rfl, ?_⟩
  · cases z
    exact ⟨a, List.mem_singleton.mpr rfl, hq, fun z => z.elim (fun z => by cases z) hnt, rfl⟩
  have hstl : (L2.start N (.ref a :: ws)).length = N.length := by
    unfold L2.start
    rw [List.length_append, List.length_map, List.length_replicate, List.length_cons]
    omega
  have hρl : (none :: (ds.map some ++ List.replicate (N.length - (ds.length + 1)) none) : Env).length = N.length := by
    simp only [List.length_append, List.length_cons, List.length_map, List.length_replicate]
    omega
  have hval : ∀ (i : Nat) (d : D), (none :: (ds.map some ++ List.replicate (N.length - (ds.length + 1)) none) : Env)[i]? = some (some d) → i < np ∧ ∃ v, (V.ref a :: ws)[i]? = some v ∧ Den K noHp v d := fun i d h => by
    cases i with
    | zero => cases h
    | succ i =>
      have h : (ds.map some ++ List.replicate (N.length - (ds.length + 1)) none : Env)[i]? = some (some d) := h
      by_cases hi : i < ds.length
      · rw [List.getElem?_append_left (by simpa using hi), List.getElem?_map] at h
        cases e : ds[i]? with
        | none => rw [e] at h; cases h
        | some d' =>
          rw [e] at h
          cases h
          obtain ⟨v, h1, h2⟩ := hd.get e
          exact ⟨by omega, v, h1, h2⟩
      · rw [List.getElem?_append_right (by simpa using hi)] at h
        exact absurd h rep_none
  refine ⟨by rw [hρl, hstl], hρl, fun a o h _ => h, fun p hp => (nomatch hp), fun a ha => ?_, fun p hp => ?_, fun i d h n => ?_, fun i d h n => ?_, fun i p n h => absurd h (noroot i p n), fun i j p n _ h _ => absurd h (noroot i p n), fun p hp => ?_⟩
  · exact Option.ne_none_iff_exists'.mp ha
  · obtain rfl : p = (0, .ref a) := List.mem_singleton.mp hp
    refine ⟨start_at rfl, fun z => ?_, rfl⟩
    have := (hown 0 z).1
    omega
  · obtain ⟨hi, v, h1, h2⟩ := hval i d h
    exact ⟨v, start_at h1, h2.mono smF⟩
  · have := (hval i d h).1
    have := (hown i n).1
    omega
  · have t := hT p hp
    have : H p ≠ none := by
      obtain ⟨qs, e, _⟩ := t
      rw [e]; simp
    exact ⟨t, this, this⟩
/-- THE RULE: a def that reads the script -/
theorem fn_script (T : Addr → Prop) (F : Fun K x qual st f fd) (S : FnScope N ps (defScope st)) (own : List Nat) (ho : ownOk ps.length N.length own = true)
    (hbody : ∀ (ns : List Int) (cdv : Value) (A : Around) (outer : List PySem.Env) (s : Shared) (H : Hp) (E : XK), fd.code = cdv → RoomG k (A.deeper (envOfC qual (defScope st) s.heap.objs.size f cdv)) → N.Nodup →
      SDs (cxOf CX0 P w K mg base N qual (defScope st) f cdv A outer s H E).nox (slotsS N.length own T ns) (defBody st) (g ns)) : FnG P w K mg base CX0 (k + 1) f fd ps (spScr K T ps.length (fScrFn N.length g)) := by
  refine fn_at F S (fun vs H Q E h => ?_) fun cdv A0 outer s0 H vs Q E hcdv room h => ?_
  · obtain ⟨_, _, _, _, _, _, h, _⟩ := h
    exact h
  · obtain ⟨a, ns, ws, ds, d, rfl, hl, hq, hnt, hd, hG, hT, q⟩ := h
    have hn : ps.length ≤ N.length := by
      have := congrArg List.length S.pre
      rw [List.length_take] at this
      omega
    obtain ⟨A, e1, e2, e3, e4, e5, e6, R⟩ := rel_startS (w := w) (s := (0, 0, 0)) ho hn hl hq hnt hd hT
    have B := hbody ns cdv A0 outer s0 H E hcdv room S.nd
    refine ⟨_, PSs.nox (B.run A ⟨e1, e2⟩ e3), ?_⟩
    unfold fScrFn at hG
    generalize hρ : (none :: (ds.map some ++ List.replicate (N.length - (ds.length + 1)) none) : Env) = ρ at hG R
    cases h0 : g ns ρ (0, 0, 0) with
    | none => rw [h0] at hG; cases hG
    | some y =>
      obtain ⟨fl, ρ', s2⟩ := y
      rw [h0, Option.bind_some] at hG
      have fin : ∀ v σ' H', Rel A ρ' s2 σ' H' → Den K (bar A H') v d → Q v H' := fun v σ' H' R' dv => by
        have etb : A.tb = T := e3.tb
        refine q v H' (fun b o hb n => R'.keep b o (by rw [e4]; exact hb) (by unfold Act.mv; rw [e5, etb]; exact fun z => z.elim (fun z => by cases z) n)) (fun p hp => (R'.tabs p (by rw [etb]; exact hp)).1) (dv.mono fun b o hb => ?_)
        unfold bar at hb
        split at hb
        · cases hb
        · rename_i nx
          unfold fresh
          rw [if_neg]
          · exact hb
          · intro z
            exact nx ((e6 b).mpr fun w => by rw [w] at z; cases z)
      refine ⟨ρ, (0, 0, 0), fl, ρ', s2, R, h0, ?_⟩
      cases fl with
      | nx =>
        cases hG
        exact fun σ' H' R' _ => fin .non σ' H' R' .non
      | bk => cases hG
      | ct => cases hG
      | rt z =>
        cases hG
        exact fun v σ' H' R' _ dv => fin v σ' H' R' (by rw [← e1]; exact dv)
end
def Slots.turn (W : Slots) (i : Nat) : Slots := { W with sl := some i, fx := i :: W.fx, scr := none }
def Act.turn (A : Act) (i : Nat) (p : Addr) (o : HO) : Act := { A with src := some p, fix := (i, .ref p) :: A.fix, H0 := upd A.H0 p o, ex := fun a => A.ex a ∨ a = p }
section
variable {A : Act} {W : Slots} {ρ : Env} {s s' : Src} {σ : L2.St} {H H2 : Hp} {i : Nat} {p : Addr} {o : HO}
theorem Act.turn_of (h : A.Of W) : (A.turn i p o).Of (W.turn i) where
  own := h.own
  fx := by show i :: A.fix.map (·.1) = i :: W.fx; rw [h.fx]
  n := h.n
  sl := fun j e => by cases e; exact ⟨p, rfl, List.mem_cons_self⟩
  tb := h.tb
  scr := fun j ns z => by cases z
theorem Rel.turn (R : Rel A ρ s σ H) (k : Kp A H H2) (hn : H p = none) (hp : H2 p = some (.lst (srcV s'))) (hs : A.src = none) (hi : i ∉ A.own) (hf : i ∉ A.fix.map (·.1)) (hr : ρ[i]? = some none) (ht : ∀ q, A.tb q → TabG H2 q) :
    Rel (A.turn i p (.lst (srcV s'))) ρ s' (σ.set i (some (.ref p))) H2 := by
  have hil : i < σ.length := by
    have := (List.getElem?_eq_some_iff.mp hr).1
    rw [R.len] at this; exact this
  have mvt : ∀ {a}, A.mv a → A.tb a := fun h => h.elim (fun z => by rw [hs] at z; cases z) id
  have rti : ∀ a, IsRoot (A.turn i p (.lst (srcV s'))) (σ.set i (some (.ref p))) a ↔ IsRoot A σ a := fun a => root_set hi _ a
  have sm : Same (fre A σ H) (fre (A.turn i p (.lst (srcV s'))) (σ.set i (some (.ref p))) H2) := fun a o h => by
    obtain ⟨n1, n2⟩ := fre_no h
    have h' := fre_same a o h
    exact fre_of (k a o h' fun z => n2 (R.mvEx z)) (fun z => n1 ((rti a).mp z)) fun z => z.elim n2 fun e => by rw [e, hn] at h'; cases h'
  have nei : ∀ {j : Nat} {d : D}, ρ[j]? = some (some d) → i ≠ j := fun h e => by rw [← e, hr] at h; cases h
  refine ⟨by rw [List.length_set]; exact R.len, R.nl, fun a u h n => ?_, fun q h => ?_, fun a h => ?_, fun q h => ?_, fun j d h n => ?_, fun j d h n => ?_, fun j q n h => ?_, fun j l q n m h h2 => ?_, fun q h => ?_⟩
  · have ne : a ≠ p := fun e => n (.inl (by rw [e]; rfl))
    have h : upd A.H0 p _ a = some u := h
    rw [upd_ne ne] at h
    have nm : ¬ A.mv a := fun z => n (.inr (mvt z))
    exact k a u (R.keep a u h nm) nm
  · have h : some p = some q := h
    cases h
    exact ⟨hp, by show upd A.H0 p _ p ≠ none; rw [upd_same]; simp, .inr rfl⟩
  · rcases h with h | rfl
    · obtain ⟨u, e⟩ := R.exin a h
      by_cases m : A.mv a
      · obtain ⟨ps, e2, _⟩ := ht a (mvt m)
        exact ⟨_, e2⟩
      · exact ⟨u, k a u e m⟩
    · exact ⟨_, hp⟩
  · rcases List.mem_cons.mp h with z | z
    · subst z
      exact ⟨by rw [List.getElem?_set_self hil], hi, hr⟩
    · obtain ⟨a1, a2, a3⟩ := R.fix q z
      have ne : i ≠ q.1 := fun e => hf (by rw [e]; exact List.mem_map_of_mem z)
      exact ⟨by rw [List.getElem?_set_ne ne]; exact a1, a2, a3⟩
  · obtain ⟨v, h1, h2⟩ := R.val j d h n
    exact ⟨v, by rw [List.getElem?_set_ne (nei h)]; exact h1, h2.mono sm⟩
  · obtain ⟨q, u, h1, h2, h3⟩ := R.ownv j d h n
    have nx := (R.root j q n h1).2.1
    exact ⟨q, u, by rw [List.getElem?_set_ne (nei h)]; exact h1, k q u h2 fun z => nx (R.mvEx z), h3.mono sm⟩
  · have ne : i ≠ j := fun e => hi (by rw [e]; exact n)
    rw [List.getElem?_set_ne ne] at h
    obtain ⟨a1, a2, u, a3⟩ := R.root j q n h
    have np : q ≠ p := fun e => by rw [e, hn] at a3; cases a3
    exact ⟨by show upd A.H0 p _ q = none; rw [upd_ne np]; exact a1, fun z => z.elim a2 np, u, k q u a3 fun z => a2 (R.mvEx z)⟩
  · have ne : i ≠ j := fun e => hi (by rw [e]; exact n)
    have ne2 : i ≠ l := fun e => hi (by rw [e]; exact m)
    rw [List.getElem?_set_ne ne] at h
    rw [List.getElem?_set_ne ne2] at h2
    exact R.inj j l q n m h h2
  · obtain ⟨a1, a2, a3⟩ := R.tabs q h
    refine ⟨ht q h, ?_, .inl a3⟩
    show upd A.H0 p _ q ≠ none
    by_cases e : q = p
    · rw [e, upd_same]; simp
    · rw [upd_ne e]; exact a2
theorem Rel.unturn {s0 : Src} (R : Rel (A.turn i p o) ρ s σ H) (h0 : A.H0 p = none) (hs : A.src = none) (h2 : ∀ q, A.tb q → A.H0 q ≠ none ∧ A.ex q) : Rel A ρ s0 σ H := by
  have sm : Same (fre (A.turn i p o) σ H) (fre A σ H) := fun a o h => by
    obtain ⟨n1, n2⟩ := fre_no h
    exact fre_of (fre_same a o h) n1 fun z => n2 (.inl z)
  refine ⟨R.len, R.nl, fun a u h n => ?_, fun q h => (by rw [hs] at h; cases h), fun a h => R.exin a (.inl h), fun q h => R.fix q (List.mem_cons_of_mem _ h), fun j d h n => ?_, fun j d h n => ?_, fun j q n h => ?_, R.inj, fun q h => ?_⟩
  · have ne : a ≠ p := fun e => by rw [e, h0] at h; cases h
    refine R.keep a u (by show upd A.H0 p _ a = some u; rw [upd_ne ne]; exact h) fun z => ?_
    rcases z with z | z
    · have z : some p = some a := z
      cases z
      exact ne rfl
    · exact n (.inr z)
  · obtain ⟨v, h1, h3⟩ := R.val j d h n
    exact ⟨v, h1, h3.mono sm⟩
  · obtain ⟨q, u, h1, h3, h4⟩ := R.ownv j d h n
    exact ⟨q, u, h1, h3, h4.mono sm⟩
  · obtain ⟨a1, a2, a3⟩ := R.root j q n h
    have ne : q ≠ p := fun e => a2 (.inr e)
    have a1 : upd A.H0 p _ q = none := a1
    rw [upd_ne ne] at a1
    exact ⟨a1, fun z => a2 (.inl z), a3⟩
  · exact ⟨(R.tabs q h).1, h2 q h⟩
end
def fTurn (i : Nat) (ns : List Int) (G : List Int → List D → Option D) (fe : FE) (g : FS) : FS := fun ρ s => match ρ[i]? with
  | some none => (fe ρ s).bind fun x => match x.1 with
    | .int m => match G ns [.int m] with
      | some (.list [.int a, .int b, .int c]) => (g ρ (a, b, c)).map fun y => (y.1, y.2.1, x.2)
      | _ => none
    | _ => none
  | _ => none
theorem fTurn_some {i : Nat} {ns : List Int} {G : List Int → List D → Option D} {fe : FE} {g : FS} {ρ ρ' : Env} {s s' : Src} {fl : Fl} (h : fTurn i ns G fe g ρ s = some (fl, ρ', s')) :
    ρ[i]? = some none ∧ ∃ m a b c s2, fe ρ s = some (.int m, s') ∧ G ns [.int m] = some (.list [.int a, .int b, .int c]) ∧ g ρ (a, b, c) = some (fl, ρ', s2) := by
  unfold fTurn at h
  split at h
  · rename_i e
    refine ⟨e, ?_⟩
    cases h0 : fe ρ s with
    | none => rw [h0] at h; cases h
    | some x =>
      obtain ⟨d, s1⟩ := x
      rw [h0, Option.bind_some] at h
      simp only at h
      split at h
      · rename_i m
        split at h
        · rename_i a b c e2
          cases h1 : g ρ (a, b, c) with
          | none => rw [h1] at h; cases h
          | some y =>
            rw [h1] at h
            cases h
            exact ⟨m, a, b, c, y.2.2, rfl, e2, h1⟩
        · cases h
      · cases h
  · cases h
section
variable {X : Cx} {own : Slots} {k : Nat} {f : Addr} {fd : FuncData} {ps : List Str} {x x0 xs : Str} {p p0 pxs pos pos2 : Pos} {e : Expr} {fe : FE} {g : FS} {rest : List Stmt} {ns : List Int} {G : List Int → List D → Option D}
/-- source = f(script, e), then what follows reads that source -/
theorem sds_turn (i0 i : Nat) (hsc : own.scr = some (i0, ns)) (F : FnG X.prog X.w X.K X.mg X.base CX0 k f fd ps (spScr X.K own.tb 2 G)) (hr : RoomG k X.A) (hm : X.mg x = some (.ref f)) (hk : PySem.W.keepIn X.K (.ref f) = true) (hb : Binds X.K fd ps [])
    (he : PD X own e fe) (hrest : SDs X (own.turn i) rest g) (hw1 : own.own.contains i = false := by rfl) (hw2 : own.fx.contains i = false := by rfl) (hN : X.N.Nodup := by assumption) (hi : X.N[i]? = some xs := by rfl) (hx : Loc X.env.scope xs := by first | exact Or.inl rfl | exact Or.inr rfl)
    (hf : X.fn xs = true ∨ X.env.scope.names.lookup xs = some .local := by first | exact .inl rfl | exact .inr rfl)
    (hg : Gl X x := by rfl) (hN0 : X.N[i0]? = some x0 := by rfl) (hv : Vis X.env.scope x0 := by first | exact Or.inl rfl | exact Or.inr (Or.inl rfl) | exact Or.inr (Or.inr rfl)) (hd : (x0 == ("__debug__" : Str)) = false := by decide) (hcd : (x0 == ("__classdict__" : Str)) = false := by decide)
    (hdb : (x == ("__debug__" : Str)) = false := by decide) (hs1 : starEach (.Name x0 p0 :: [e]) X.env = (false, eval (.Name x0 p0) X.env) :: starEach [e] X.env := by rfl) (hs2 : starEach [e] X.env = (false, eval e X.env) :: starEach [] X.env := by rfl) (hpl : (backTo pos (starEach [e] X.env)).any (·.1) = false := by rfl)
    (hs : swapsWithSole [.Name xs pxs] (.Call (.Name x p) [.Name x0 p0, e] [] pos) pos2.line X.env = pure false := by rfl) (hw : swappedStores [.Name xs pxs] (.Call (.Name x p) [.Name x0 p0, e] [] pos) X.env = pure none := by rfl) :
    SDs X own (.Assign [.Name xs pxs] (.Call (.Name x p) [.Name x0 p0, e] [] pos) pos2 :: rest) (fTurn i ns G fe g) :=
  ⟨fun A hK hW => (pss_cons (ps_asg (pe_callG F hr hg hm hk hb pass0 (pa_cons (pe_var hN0 hv hd hcd) (pa_cons (he.run A hK hW) pa_nil hs2) hs1) hdb hs1 hpl) (pg_name hN hi hx hf) hs hw)
      (⟨fun pins s σ H D I ⟨A', hk', hw', h⟩ => (hrest.run A' hk' hw').run pins s σ H D I h⟩ : PSs X rest (fun E σ H => ∃ A' : Act, A'.At X ∧ A'.Of (own.turn i) ∧ tS A' g E σ H))).imp fun E σ H ⟨ρ, s, fl, ρ', s', R, hf, q⟩ => by
    obtain ⟨hri, m, c1, c2, c3, s2, h1, h2, h3⟩ := fTurn_some hf
    obtain ⟨a, g1, g2, g3, hs0⟩ := hW.scr i0 ns hsc
    refine ⟨.ref a, (R.fix _ g1).1, ρ, s, .int m, s', R, h1, fun v H1 R1 k1 t1 => ?_⟩
    cases t1
    have sq := g2.keep fun o e => R1.keep a o e g3
    rw [hK.1] at sq
    have etb := hW.tb
    refine ⟨a, ns, [.int m], [.int m], _, rfl, rfl, sq, fun z => g3 (.inr (by rw [etb]; exact z)), .cons (.int m) .nil, h2, fun q hq => (R1.tabs q (by rw [etb]; exact hq)).1, fun v H2 keep tab dv => ?_⟩
    cases dv with
    | @lst p xs ds ho da =>
      obtain ⟨n1, n2⟩ := fresh_some ho
      obtain rfl : xs = srcV (c1, c2, c3) := by
        cases da with
        | cons d1 da =>
          cases d1
          cases da with
          | cons d2 da =>
            cases d2
            cases da with
            | cons d3 da =>
              cases d3
              cases da
              rfl
      have kp : DL.Kp A H1 H2 := fun b o hb z => keep b o hb fun t => z (.inr (by rw [etb]; exact t))
      have tb2 : ∀ q, A.tb q → TabG H2 q := fun q hq => tab q (by rw [← etb]; exact hq)
      have R2 := R1.turn (i := i) (s' := (c1, c2, c3)) kp n1 n2 hs0 (hW.nown hw1) (hW.nfix hw2) hri tb2
      have h0 : A.H0 p = none := (R1.new n1).2.2
      have fr : ∀ {σ' H'}, Fr (A.turn i p (.lst (srcV (c1, c2, c3)))) (σ.set i (some (.ref p))) H2 σ' H' → Fr A σ H σ' H' := fun F' b o hb n z => by
        have b1 := k1 b o hb z
        have nb : b ≠ p := fun e => by rw [e, n1] at b1; cases b1
        refine F' b o (kp b o b1 z) (fun y => n ((root_set (hW.nown hw1) _ b).mp y)) fun y => ?_
        rcases y with y | y
        · have y : some p = some b := y
          cases y
          exact nb rfl
        · exact z (.inr y)
      have un : ∀ {σ' H'}, Rel (A.turn i p (.lst (srcV (c1, c2, c3)))) ρ' s2 σ' H' → Rel A ρ' s' σ' H' := fun R' => R'.unturn h0 hs0 fun q hq => (R1.tabs q hq).2
      refine ⟨A.turn i p (.lst (srcV (c1, c2, c3))), hK, Act.turn_of hW, ρ, (c1, c2, c3), fl, ρ', s2, R2, h3, ?_⟩
      cases fl with
      | nx => exact fun σ' H' R' F' => q σ' H' (un R') (fr F')
      | bk => exact fun σ' H' R' F' => q σ' H' (un R') (fr F')
      | ct => exact fun σ' H' R' F' => q σ' H' (un R') (fr F')
      | rt d => exact fun v σ' H' R' F' dv => q v σ' H' (un R') (fr F') (dv.mono fun b o hb => by
          unfold bar at hb
          split at hb
          · cases hb
          · rename_i nx
            exact bar_of hb fun z => nx (.inl z))⟩
end
end DL
/-! repr of any data; math.gcd; isinstance of two types. -/
namespace DL
open PySem PySem.Spec PyProof.Rows L2 GX
section
variable {X : Cx}
/-- repr of data of any kind -/
def rReprA (X : Cx) : List V → Hp → VK → Prop := fun xs H Q => ∃ x d, xs = [x] ∧ Dp X.K H x d ∧ reprOk d = true ∧ Q (.str d.shown) H
theorem cr_reprA (hu : X.A.units + 64 < cLine) (hg : X.A.guards = some []) : CallR X (.builtin "repr") (rReprA X) := by
  intro pins s σ H xs us Q I vu h
  obtain ⟨x, d, rfl, hd, ok, q⟩ := h
  have ok' := ok
  unfold reprOk at ok'
  simp only [Bool.and_eq_true, Bool.not_eq_true', decide_eq_true_eq] at ok'
  obtain ⟨⟨⟨o1, o2⟩, o3⟩, o4⟩ := ok'
  cases d with
  | none =>
    cases hd
    obtain ⟨u, rfl, e⟩ := vals1 vu
    cases e
    exact PySem.P.repr_of_none ⟨.str "None", H, I.tok _, ⟨_, rfl⟩, q⟩
  | bool b =>
    cases hd
    obtain ⟨u, rfl, e⟩ := vals1 vu
    cases e
    exact PySem.P.repr_of_bool ⟨.str _, H, I.tok _, ⟨_, rfl⟩, q⟩
  | int i =>
    cases hd
    obtain ⟨u, rfl, t, rfl⟩ := vals1 vu
    have hz : i.natAbs.log2 < 1920 := by rw [PyData.showable] at o1; exact of_decide_eq_true o1
    exact PySem.P.repr_of_int hz ⟨.str _, H, I.tok _, ⟨_, rfl⟩, q⟩
  | str y =>
    cases hd
    obtain ⟨u, rfl, t, rfl⟩ := vals1 vu
    exact PySem.P.repr_of_str ⟨.str _, H, I.tok _, ⟨_, rfl⟩, q⟩ o4
  | list ds =>
    obtain ⟨a, rfl⟩ : ∃ a, x = .ref a := by cases hd; exact ⟨_, rfl⟩
    exact cr_repr hu hg pins s σ H [.ref a] us Q I vu ⟨.ref a, _, rfl, ⟨a, rfl⟩, hd, ok, q⟩
  | tuple ds =>
    obtain ⟨a, rfl⟩ : ∃ a, x = .ref a := by cases hd; exact ⟨_, rfl⟩
    exact cr_repr hu hg pins s σ H [.ref a] us Q I vu ⟨.ref a, _, rfl, ⟨a, rfl⟩, hd, ok, q⟩
  | dict kvs => rw [PyData.hasDict] at o2; cases o2
def dReprA : List D → Option D
  | [d] => if isDict d = false ∧ reprOk d = true then some (.str d.shown) else none
  | _ => none
theorem ca_reprA : CalR X (rReprA X) dReprA := fun A ρ s σ H vs ds z Q hk R t hz q => by
  unfold dReprA at hz
  split at hz
  · rename_i d
    split at hz
    · rename_i c
      cases hz
      obtain ⟨v, rfl, t1⟩ := t.one
      refine ⟨v, d, rfl, ?_, c.2, q _ H (Same.refl H) (.str _)⟩
      rw [← hk.1]
      exact (t1.den fun kvs e => by rw [e] at c; exact absurd c.1 (by simp [isDict])).dp
    · cases hz
  · cases hz
variable {own : Slots} {x : Str} {p pos : Pos} {e : Expr} {es : List Expr} {fa : FA} {id : String} {r : List V → Hp → VK → Prop} {g : List D → Option D}
/-- f(e, ..), f an imported function -/
theorem pd_callFun (hc : CallR X (.builtin id) r) (hr : CalR X r g) (hm : X.mg x = some (.builtin id)) (ha : PAB X own (e :: es) fa) (hg : Gl X x := by rfl) (hdb : (x == ("__debug__" : Str)) = false := by decide)
    (he : starEach (e :: es) X.env = (false, eval e X.env) :: starEach es X.env := by rfl) (hpl : (backTo pos (starEach es X.env)).any (·.1) = false := by rfl) : PD X own (.Call (.Name x p) (e :: es) [] pos) (fCall g fa) :=
  ⟨fun A hk hw => (pe_callBfun hc hg hm (ha.run A hk hw) hdb he hpl).imp (tCB_of hk hr)⟩
/-! isinstance(x, (T, U)) -/
def dIsi2 (T U : String) (d : D) : Option D := if isDict d = true then none else match kitB (tyD d) T with
  | some true => some (.bool true)
  | some false => (kitB (tyD d) U).map .bool
  | none => none
def rIsi2 (X : Cx) (T U : String) : List V → Hp → VK → Prop := fun xs H Q => ∃ (A : Act) (σ : L2.St) (v : V) (d : D) (b : Bool) (tp : Addr), A.At X ∧ xs = [v, .ref tp] ∧ H tp = some (.tup [.ty T, .ty U]) ∧ Top A σ H v d ∧ dIsi2 T U d = some (.bool b) ∧ Q (.bl b) H
theorem top_kit {A : Act} {pins : List (Addr × Obj)} {s : Shared} {σ σ2 : L2.St} {H : Hp} {v : V} {u : Value} {d : D} (hk : A.At X) (I : Inv X pins σ2 H s) (ru : RelV v u) (t : Top A σ H v d) (nd : isDict d = false) :
    ∃ P : Heap → Prop, PySem.W.KitX X.K u (.type (tyD d)) P ∧ P s.heap ∧ u ≠ .builtin "__main__.__loader__#opaque" := by
  cases d with
  | none =>
    have e := t.non; subst e
    cases (show u = Value.none from ru)
    exact ⟨_, PySem.W.kitx_none, True.intro, fun z => nomatch z⟩
  | bool y =>
    have e := t.bool; subst e
    cases (show u = Value.bool y from ru)
    exact ⟨_, PySem.W.kitx_bool, True.intro, fun z => nomatch z⟩
  | int i =>
    have e := t.int; subst e
    obtain ⟨t, z⟩ := (show ∃ t, u = Value.int i t from ru)
    cases z
    exact ⟨_, PySem.W.kitx_int, True.intro, fun z => nomatch z⟩
  | str y =>
    have e := t.str; subst e
    obtain ⟨t, z⟩ := (show ∃ t, u = Value.str y t from ru)
    cases z
    exact ⟨_, PySem.W.kitx_str, True.intro, fun z => nomatch z⟩
  | list ds =>
    obtain ⟨a, xs, rfl, _, ea, _⟩ := t.list
    cases (show u = Value.ref a from ru)
    obtain ⟨_, _, n, _, h1⟩ := (show ObjOk X.prog X.w H s.heap a (.lst xs) from I.hok a _ ea)
    exact ⟨_, PySem.W.kitx_list, ⟨_, h1, rfl⟩, fun z => nomatch z⟩
  | tuple ds =>
    obtain ⟨a, xs, rfl, ea, _⟩ := t.tuple
    cases (show u = Value.ref a from ru)
    obtain ⟨its, rr, ⟨o, h1, h2, _⟩, _⟩ := I.tuple (hk.1 ▸ seqT_fre ea)
    exact ⟨_, PySem.W.kitx_tuple, ⟨o, h1, h2⟩, fun z => nomatch z⟩
  | dict kvs => cases nd
theorem cr_isi2 {T U : String} : CallR X (.builtin "isinstance") (rIsi2 X T U) := by
  intro pins s σ H xs us Q I r h
  obtain ⟨A, σ2, v, d, b, tp, hk, rfl, hT, t, hb, q⟩ := h
  obtain ⟨u1, u2, rfl, r1, r2⟩ := vals2 r
  cases (show u2 = Value.ref tp from r2)
  unfold dIsi2 at hb
  split at hb
  · cases hb
  · rename_i nd
    obtain ⟨P, Z, hp, hx⟩ := top_kit hk I r1 t (by simpa using nd)
    obtain ⟨_, its, rv, o, h1, h2, n, h3⟩ := (show ObjOk X.prog X.w H s.heap tp (.tup [.ty T, .ty U]) from I.hok tp _ hT)
    obtain ⟨w1, w2, e3, r3, r4⟩ := vals2 rv
    cases (show w1 = Value.type T from r3)
    cases (show w2 = Value.type U from r4)
    subst e3
    have e : PySem.W.kitAny X.K (.type (tyD d)) [.type T, .type U] = some b := by
      unfold PySem.W.kitAny
      cases h4 : kitB (tyD d) T with
      | none => rw [h4] at hb; cases hb
      | some c =>
        rw [h4] at hb
        rw [kit_ty h4]
        cases c with
        | true => cases hb; rfl
        | false =>
          cases h5 : kitB (tyD d) U with
          | none => rw [h5] at hb; cases hb
          | some c2 =>
            rw [h5] at hb
            cases hb
            show PySem.W.kitAny X.K (.type (tyD d)) [.type U] = _
            unfold PySem.W.kitAny
            rw [kit_ty h5]
            cases b <;> rfl
    obtain ⟨oc, od, dt, sl⟩ := o
    simp only at h2 h3
    subst h2 h3
    exact PySem.W.kia_tup Z I.kIn hp h1 e hx fun tk => ⟨.bl b, H, I.tok tk, rfl, q⟩
variable {f : FE} {T U : String} {y : Str} {p1 p2 tpos : Pos} {kk : Nat}
theorem pd_isi2 (hT : X.mg x = none) (hvT : bootBuiltins x = some (.type T)) (hU : X.mg y = none) (hvU : bootBuiltins y = some (.type U)) (hm : X.mg "isinstance" = none) (he : PB X own e f) (hg : Gl X "isinstance" := by rfl) (hgT : Gl X x := by rfl) (hgU : Gl X y := by rfl)
    (hn : x ≠ "__name__" := by decide) (hdb : (x == ("__debug__" : Str)) = false := by decide) (hn2 : y ≠ "__name__" := by decide) (hdb2 : (y == ("__debug__" : Str)) = false := by decide)
    (hs1 : starEach [e, .Tuple [.Name x p1, .Name y p2] kk tpos] X.env = (false, eval e X.env) :: starEach [.Tuple [.Name x p1, .Name y p2] kk tpos] X.env := by rfl)
    (hs2 : starEach [.Tuple [.Name x p1, .Name y p2] kk tpos] X.env = (false, eval (.Tuple [.Name x p1, .Name y p2] kk tpos) X.env) :: starEach [] X.env := by rfl)
    (hs3 : starEach [.Name x p1, .Name y p2] X.env = (false, eval (.Name x p1) X.env) :: starEach [.Name y p2] X.env := by rfl) (hs4 : starEach [.Name y p2] X.env = (false, eval (.Name y p2) X.env) :: starEach [] X.env := by rfl)
    (hpl : (backTo pos (starEach [.Tuple [.Name x p1, .Name y p2] kk tpos] X.env)).any (·.1) = false := by rfl) : PD X own (.Call (.Name "isinstance" p) [e, .Tuple [.Name x p1, .Name y p2] kk tpos] [] pos) (fU1 (dIsi2 T U) f) :=
  ⟨fun A hk hw => (pe_callB cr_isi2 hg hm rfl (pa_cons (he.run A hk hw) (pa_cons (pe_tup (pa_cons (pe_bltn (v := .ty T) hgT hT hvT rfl hn hdb) (pa_cons (pe_bltn (v := .ty U) hgU hU hvU rfl hn2 hdb2) pa_nil hs4) hs3)) pa_nil hs2) hs1) (by decide) (by decide) hs1 hpl).imp fun σ H Q ⟨ρ, s, z, s', R, hf, q⟩ => by
    obtain ⟨d, h1, h2⟩ := fU1_some hf
    obtain ⟨b, rfl⟩ : ∃ b, z = .bool b := by
      unfold dIsi2 at h2
      split at h2
      · cases h2
      · split at h2
        · cases h2; exact ⟨_, rfl⟩
        · cases h5 : kitB (tyD d) U with
          | none => rw [h5] at h2; cases h2
          | some c2 => rw [h5] at h2; cases h2; exact ⟨_, rfl⟩
        · cases h2
    refine ⟨ρ, s, d, s', R, h1, fun v H1 R1 k1 t1 => ?_⟩
    refine ⟨(show 2 ≤ sizeLine by decide), fun tp htp => ?_⟩
    have k2 : DL.Kp A H1 (upd H1 tp (.tup [.ty T, .ty U])) := Kp.of (same_upd htp)
    exact ⟨A, σ, v, d, b, tp, hk, rfl, upd_same, t1.keep R1 k2, h2, q _ _ (R1.mono (same_upd htp)) (k1.trans k2) (.bl b)⟩⟩
end
end DL
/-! The end of a law whose defs have tables, for promises at places without a repr under way. -/
namespace GX
open PySem PySem.Spec PyProof.Rows L2 DL
section
variable {P : Program} {w : World} {K : PySem.W.Frag} {mg mb : Str → Option Value} {k : Nat} {fa a : Addr} {cs : List (Addr × Addr)} {fd : FuncData} {x : Str} {sp : Sp} {s1 : Shared} {vs : List Value} {ns : List Int}
abbrev scrObj (vs : List Value) : Obj := { cls := .type "list", data := .seq vs.toArray }
abbrev tabObj : Obj := { cls := .none, data := .fields #[] }
/-- at the start the script, if the head does not know it, and the tables are tracked -/
def startH (K : PySem.W.Frag) (a : Addr) (cs : List (Addr × Addr)) (vs : List Value) (ns : List Int) : Hp := fun b =>
  if b = a ∧ (K.lookup a).isNone = true then some (.frz (scrObj vs) (.lst (ns.map V.int)))
  else if b ∈ cs.map (·.2) then some (.tbl #[]) else none
theorem startH_some {b : Addr} {u : HO} (h : startH K a cs vs ns b = some u) : (b = a ∧ K.lookup a = none ∧ u = .frz (scrObj vs) (.lst (ns.map V.int))) ∨ (b ∈ cs.map (·.2) ∧ u = .tbl #[]) := by
  unfold startH at h
  split at h
  · rename_i e
    cases h
    exact .inl ⟨e.1, Option.isNone_iff_eq_none.mp e.2, rfl⟩
  · split at h
    · rename_i e
      cases h
      exact .inr ⟨e, rfl⟩
    · cases h
theorem law_tabsG (kin : K.In s1.heap) (hns : s1.heap.Ns mainGlobals mg) (hbn : s1.heap.Ns builtinsNs mb) (hbb : ∀ y : Str, y ≠ "__name__" → mb y = bootBuiltins y) (hlim : s1.heap.NoLimit) (hgen : s1.gens = #[])
    (tabs : ∀ t ∈ cs, s1.heap.get? t.2 = some tabObj) (nots : ∀ t ∈ cs, K.lookup t.2 = none) (codes : ∀ t ∈ cs, PySem.W.CodeHd s1.heap t.1 t.2)
    (hbm : ∃ (m : Addr) (u : Obj), mg "__builtins__" = some (.ref m) ∧ m ≠ builtinsNs ∧ s1.heap.get? m = some u ∧ u.cls = .type "module" ∧ u.dict = some builtinsNs ∧ u.data = .plain)
    (ha : s1.heap.get? a = some (scrObj vs)) (hi : IntsAre vs ns) (hl : ns.length ≤ sizeLine) (hr : RoomG k callerA)
    (F : ∀ b : Heap, K.In b → b.Ns mainGlobals mg → (∀ t ∈ cs, GxR.TabB b mg t.1 t.2) → FnG P w K mg b CX0 k fa fd [x] sp) (hbind : ∀ (s : Shared) (u : Value), BindsTo s fd ⟨[u], []⟩ [(x, u)])
    (hsp : ∀ H : Hp, (∀ t ∈ cs, H t.2 = some (.tbl #[]) ∧ t.2 ≠ a) → SqL K H a (ns.map V.int) → sp [.ref a] H (fun v _ => v = .bl true) fun _ _ _ => False) :
    codeAny (model P w) callerA (.call (.ref fa) ⟨[.ref a], []⟩) (fun r s' => r = .ok (.ret (.bool true)) ∧ OldK s1.heap s'.heap ∧ s'.os = s1.os ∧ AllBare s'.gens) s1 := by
  have vals := vals_ints hi
  have len := hi.length
  have atT : ∀ {b : Addr}, b ∈ cs.map (·.2) → s1.heap.get? b = some tabObj := fun {b} h => by
    obtain ⟨t, ht, rfl⟩ := List.mem_map.mp h
    exact tabs t ht
  have inT : ∀ {t}, t ∈ cs → t.2 ∈ cs.map (·.2) := fun h => List.mem_map_of_mem h
  have na : ∀ {b : Addr}, b ∈ cs.map (·.2) → b ≠ a := fun {b} h e => by
    have q := atT h
    rw [e, ha] at q
    have z : Data.seq vs.toArray _ = Data.fields #[] := congrArg Obj.data (Option.some.inj q)
    cases z
  let H : Hp := startH K a cs vs ns
  have Htab : ∀ t ∈ cs, H t.2 = some (.tbl #[]) ∧ t.2 ≠ a := fun t ht => by
    have n := na (inT ht)
    refine ⟨?_, n⟩
    show startH K a cs vs ns t.2 = _
    unfold startH
    rw [if_neg (fun z => n z.1), if_pos (inT ht)]
  have sq : SqL K H a (ns.map V.int) := by
    cases hk : K.lookup a with
    | none =>
      refine .inl (.inr ⟨scrObj vs, ?_⟩)
      show startH K a cs vs ns a = _
      unfold startH
      rw [if_pos ⟨rfl, by rw [hk]; rfl⟩]
    | some o =>
      have e := kin a o hk
      rw [ha] at e
      cases e
      exact .inr ⟨_, vs.toArray, _, hk, rfl, rfl, rfl, by rw [List.size_toArray, len]; exact hl, by simpa using vals⟩
  have hok : HOk P w H s1.heap := fun b u h => by
    rcases startH_some h with ⟨rfl, _, rfl⟩ | ⟨h1, rfl⟩
    · exact ⟨ha, by rw [List.length_map]; exact hl, vs, _, vals, ha⟩
    · exact atT h1
  let B := hidT s1.heap H
  -- what is neither a list nor a table of this kind stays in the base
  have un : ∀ {b : Addr} {o : Obj}, s1.heap.get? b = some o → (∀ q m, o.data ≠ .seq q m) → o.data ≠ .fields #[] → H b = none := fun {b o} e n1 n2 => by
    cases q : H b with
    | none => rfl
    | some u =>
      rcases startH_some q with ⟨rfl, _, _⟩ | ⟨h1, _⟩
      · rw [ha] at e
        cases e
        exact absurd rfl (n1 _ _)
      · rw [atT h1] at e
        cases e
        exact absurd rfl n2
  have base : ∀ {b : Addr} {o : Obj}, s1.heap.get? b = some o → H b = none → B.get? b = some o := fun e n => hidT_get e n
  have ns' : ∀ {b : Addr} {m : Str → Option Value}, s1.heap.Ns b m → B.Ns b m := by
    rintro b m ⟨o, es, ep, e, d, r⟩
    refine ⟨o, es, ep, base e (un e (fun q l z => ?_) fun z => ?_), d, r⟩
    · rw [d] at z; cases z
    · rw [d] at z; cases z
  have kinB : K.In B := fun b o e => by
    refine base (kin b o e) ?_
    cases q : H b with
    | none => rfl
    | some u =>
      rcases startH_some q with ⟨rfl, n, _⟩ | ⟨h1, _⟩
      · rw [n] at e; cases e
      · obtain ⟨t, ht, rfl⟩ := List.mem_map.mp h1
        rw [nots t ht] at e; cases e
  have md : Mod K mg B := by
    obtain ⟨mc, l1, l2⟩ := hlim
    exact { kin := kinB, glob := ns' hns, blt := ⟨mb, ns' hbn, hbb⟩, nolimit := ⟨mc, ns' l1, l2⟩ }
  have tbB : ∀ t ∈ cs, GxR.TabB B mg t.1 t.2 := fun t ht => by
    obtain ⟨m, u, m1, m2, m3, m4, m5, m6⟩ := hbm
    have noG : m ≠ mainGlobals := fun q => by
      obtain ⟨o, es, ep, e, d, _⟩ := hns
      rw [q, e] at m3
      cases m3
      rw [d] at m6
      cases m6
    have noT : m ≠ t.2 := fun q => by
      rw [q, tabs t ht] at m3
      cases m3
      cases m6
    refine { code := ?_, bm := ?_, gP := fun q => ?_ }
    · obtain ⟨o, us, f1, f2, f3, f4, f5, f6, f7, e, r1, r2, r3, r4⟩ := codes t ht
      refine ⟨o, us, f1, f2, f3, f4, f5, f6, f7, base e (un e (fun q l z => ?_) fun z => ?_), r1, r2, r3, r4⟩
      · rw [r2] at z; cases z
      · rw [r2] at z
        cases z
        simp at r3
    · refine ⟨m, u, m1, m2, noG, noT, base m3 (un m3 (fun q l z => ?_) fun z => ?_), m4, m5, m6⟩
      · rw [m6] at z; cases z
      · rw [m6] at z; cases z
    · obtain ⟨o, es, ep, e, d, _⟩ := hns
      rw [q, tabs t ht] at e
      cases e
      cases d
  have e0 : Env0 P w K mg B callerA [] s1 H := by
    refine { frames := rfl, mod := md, bs := fun b o e => of_hidT e, bsz := Nat.le_of_eq (hidT_size _ _), funs := trivial, frf := ?_, hok := hok, bare := .of_eq hgen }
    intro b hb
    cases (show b ∈ ([] : List Addr) from hb)
  refine codeAny_mono ((F B kinB (ns' hns) tbB).run (us := [.ref a]) (vs := [.ref a]) hr e0 (hbind s1 (.ref a)) (.cons rfl .nil) (hsp H Htab sq)) ?_
  intro r s' h
  match r, h with
  | .error e, h => exact False.elim h
  | .ok .next, h => exact h.elim
  | .ok .brk, h => exact h.elim
  | .ok .cont, h => exact h.elim
  | .ok (.ret u), h =>
    obtain ⟨v, H', os, bare, ut, hok2, rv, q⟩ := h
    obtain rfl : v = .bl true := q
    obtain rfl : u = Value.bool true := rv
    have wide : ∀ t ∈ cs, ∃ more : Array Value, s'.heap.get? t.2 = some { cls := .none, data := .fields more } := fun t ht => by
      obtain ⟨more, z⟩ := ut.tbls t.2 #[] (Htab t ht).1
      exact ⟨_, hok2 t.2 _ z⟩
    have kept : ∀ b o, b ∉ cs.map (·.2) → s1.heap.get? b = some o → s'.heap.get? b = some o := fun b o nt e => by
      cases hb : H b with
      | none => exact ut.keep b o e hb (by intro z; cases (show b ∈ ([] : List Addr) from z)) (by simp)
      | some u =>
        rcases startH_some hb with ⟨rfl, _, rfl⟩ | ⟨h1, _⟩
        · have z2 := (hok2 b _ (ut.frzs b _ _ hb)).1
          rw [ha] at e
          cases e
          exact z2
        · exact absurd h1 nt
    refine ⟨rfl, ⟨fun b o e => ?_, fun b o e => ?_⟩, os, bare⟩
    · by_cases hb : b ∈ cs.map (·.2)
      · obtain ⟨t, ht, rfl⟩ := List.mem_map.mp hb
        obtain ⟨more, hm⟩ := wide t ht
        rw [tabs t ht] at e
        cases e
        refine .inr (.inl ⟨((codes t ht).tab (tabs t ht)).isCodeTable, rfl, #[], more, rfl, ?_⟩)
        rw [Array.empty_append]
        exact hm
      · exact .inl (kept b o hb e)
    · by_cases hb : b ∈ cs.map (·.2)
      · obtain ⟨t, ht, rfl⟩ := List.mem_map.mp hb
        obtain ⟨more, hm⟩ := wide t ht
        exact ⟨_, hm⟩
      · exact ⟨o, kept b o hb e⟩
end
/-- what is known of a law's promise when the head has run -/
structure LawG (l : PySem.W.OpenLaw) (w : World) (K : PySem.W.Frag) (k n : Nat) (x : Str) (mg : Str → Option Value) (fa : Addr) (h : Heap) (cs : List (Addr × Addr)) (fd : FuncData) (G : List Int → List D → Option D) : Prop where
  tabs : ∀ t ∈ cs, h.get? t.2 = some tabObj
  nots : ∀ t ∈ cs, K.lookup t.2 = none
  codes : ∀ t ∈ cs, PySem.W.CodeHd h t.1 t.2
  binds : ∀ (s : Shared) (u : Value), BindsTo s fd ⟨[u], []⟩ [(x, u)]
  plain : ∀ ns : List Int, ns.length ≤ n → (∀ z ∈ ns, Builtin.Int.intBits z ≤ 1048576) → G ns [] = some (.bool true)
  walk : ∀ base : Heap, K.In base → base.Ns mainGlobals mg → (∀ t ∈ cs, GxR.TabB base mg t.1 t.2) → FnG l.prog w K mg base CX0 k fa fd [x] (spScr K (fun a => a ∈ cs.map (·.2)) 1 G)
theorem walk_ofTG {l : PySem.W.OpenLaw} {n k : Nat} {q : Program} {loose : List Str} {XP : (Str → Option Value) → Heap → Prop} {YP : World → Heap → Prop} {d : DefRec} {x : Str} (hn : l.most = some n) (hn2 : n ≤ sizeLine) (hdf : d.params.defaults = []) (hr : RoomG k callerA)
    (F : ∀ (w : World) (mg : Str → Option Value) (fa : Addr) (h : Heap), YP w h → h.Ns mainGlobals mg → mg d.name = some (.ref fa) → ∃ (K : PySem.W.Frag) (cs : List (Addr × Addr)) (fd : FuncData) (G : List Int → List D → Option D), K.In h ∧ LawG l w K k n x mg fa h cs fd G) :
    PySem.W.WalkO q loose XP YP l.row.toRowW d [] (fun f vs => PySem.call f vs) := by
  refine Att.attach_callB hn hdf ?_
  intro w s0 s1 mg mb fa o pm cd doc a vs ns G Y ho hd hcd hmg hobj hints hlen hbits hg
  obtain ⟨K, cs, fd, GG, kin, L⟩ := F w mg fa _ Y G.T.g hmg
  refine law_tabsG kin G.T.g G.T.b G.T.builtins G.T.nolimit hg L.tabs L.nots L.codes G.T.bmain hobj hints (Nat.le_trans hlen hn2) hr L.walk L.binds fun H hT hS => ?_
  refine ⟨a, ns, [], [], .bool true, rfl, rfl, hS, fun z => ?_, .nil, L.plain ns hlen hbits, fun p hp => ?_, fun v H' _ _ dv => by cases dv; rfl⟩
  · obtain ⟨t, ht, e⟩ := List.mem_map.mp z
    exact (hT t ht).2 e
  · obtain ⟨t, ht, rfl⟩ := List.mem_map.mp hp
    exact ⟨#[], (hT t ht).1, by first | exact GxR.TriplesOk.nil | constructor | trivial⟩
end GX
/-! A list that is made in a slot for a while, then handed to another slot. -/
namespace DL
open PySem PySem.Spec PyProof.Rows L2 GX
def Slots.lend (W : Slots) (j : Nat) : Slots := { W with own := j :: W.own, scr := none }
def Act.lend (A : Act) (j : Nat) : Act := { A with own := j :: A.own }
section
variable {A : Act} {W : Slots} {ρ : Env} {s : Src} {σ : L2.St} {H : Hp} {i j : Nat} {p : Addr} {o : HO} {d : D} {ds : List D}
theorem Act.lend_of (h : A.Of W) : (A.lend j).Of (W.lend j) where
  own := by show j :: A.own = j :: W.own; rw [h.own]
  fx := h.fx
  n := h.n
  sl := h.sl
  tb := h.tb
  scr := fun j ns z => by cases z
theorem lend_root (hσ : σ[j]? = some none) {a : Addr} : IsRoot (A.lend j) σ a ↔ IsRoot A σ a := by
  constructor
  · rintro ⟨k, h1, h2⟩
    rcases List.mem_cons.mp h1 with e | e
    · rw [e, hσ] at h2; cases h2
    · exact ⟨k, e, h2⟩
  · rintro ⟨k, h1, h2⟩
    exact ⟨k, List.mem_cons_of_mem _ h1, h2⟩
theorem Rel.lend0 (R : Rel A ρ s σ H) (hj : j ∉ A.own) (hf : j ∉ A.fix.map (·.1)) (hσ : σ[j]? = some none) (hρ : ρ[j]? = some none) : Rel (A.lend j) ρ s σ H := by
  have fr : Same (fre A σ H) (fre (A.lend j) σ H) := fun a o h => by
    obtain ⟨n1, n2⟩ := fre_no h
    exact fre_of (fre_same a o h) (fun z => n1 ((lend_root hσ).mp z)) n2
  refine ⟨R.len, R.nl, R.keep, R.src, R.exin, fun q h => ?_, fun k d h n => ?_, fun k d h n => ?_, fun k q n h => ?_, fun k l q n m h h2 => ?_, R.tabs⟩
  · obtain ⟨a1, a2, a3⟩ := R.fix q h
    refine ⟨a1, fun z => ?_, a3⟩
    rcases List.mem_cons.mp z with e | e
    · exact hf (by rw [← e]; exact List.mem_map_of_mem h)
    · exact a2 e
  · obtain ⟨v, h1, h2⟩ := R.val k d h fun z => n (List.mem_cons_of_mem _ z)
    exact ⟨v, h1, h2.mono fr⟩
  · rcases List.mem_cons.mp n with e | e
    · rw [e, hρ] at h; cases h
    · obtain ⟨q, u, h1, h2, h3⟩ := R.ownv k d h e
      exact ⟨q, u, h1, h2, h3.mono fr⟩
  · rcases List.mem_cons.mp n with e | e
    · rw [e, hσ] at h; cases h
    · exact R.root k q e h
  · rcases List.mem_cons.mp n with e | e
    · rw [e, hσ] at h; cases h
    · rcases List.mem_cons.mp m with e2 | e2
      · rw [e2, hσ] at h2; cases h2
      · exact R.inj k l q e e2 h h2
theorem Rel.lend (R : Rel A ρ s σ H) (hj : j ∉ A.own) (hf : j ∉ A.fix.map (·.1)) (hl : j < ρ.length) (hp : H p = none) (ho : HasO A.K A.w (fre A σ H) p o d) :
    Rel (A.lend j) (ρ.set j (some d)) s (σ.set j (some (.ref p))) (upd H p o) := by
  have hl2 : j < σ.length := by rw [← R.len]; exact hl
  have R0 := R.set hj hf (x := none) (y := none) fun d e => nomatch e
  have R1 := R0.lend0 hj hf (List.getElem?_set_self hl2) (List.getElem?_set_self hl)
  have ho1 : HasO (A.lend j).K (A.lend j).w (fre (A.lend j) (σ.set j none) H) p o d := ho.mono fun a o h => by
    obtain ⟨n1, n2⟩ := fre_no h
    exact fre_of (fre_same a o h) (fun z => n1 ((root_set hj none a).mp ((lend_root (List.getElem?_set_self hl2)).mp z))) n2
  have R2 := (R1.setOwn (i := j) List.mem_cons_self hp ho1 (by rw [List.length_set]; exact hl)).1
  rw [List.set_set, List.set_set] at R2
  exact R2
theorem Rel.unlend (R : Rel (A.lend j) ρ s σ H) (hj : j ∉ A.own) (hi : i ∈ A.own) (hil : i < ρ.length) (h : ρ[j]? = some (some (.list ds))) :
    ∃ p, σ[j]? = some (some (.ref p)) ∧ Rel A ((ρ.set i (some (.list ds))).set j none) s (σ.set i (some (.ref p))) H ∧ ∀ a, IsRoot A (σ.set i (some (.ref p))) a → IsRoot (A.lend j) σ a := by
  obtain ⟨p, o, h1, h2, h3⟩ := R.ownv j _ h List.mem_cons_self
  have hij : i ≠ j := fun e => hj (by rw [← e]; exact hi)
  have hil2 : i < σ.length := by rw [← R.len]; exact hil
  have rt : ∀ a, IsRoot A (σ.set i (some (.ref p))) a → IsRoot (A.lend j) σ a := fun a ⟨k, k1, k2⟩ => by
    by_cases e : k = i
    · subst e
      rw [List.getElem?_set_self hil2] at k2
      cases k2
      exact ⟨j, List.mem_cons_self, h1⟩
    · rw [List.getElem?_set_ne (fun z => e z.symm)] at k2
      exact ⟨k, List.mem_cons_of_mem _ k1, k2⟩
  have fr : Same (fre (A.lend j) σ H) (fre A (σ.set i (some (.ref p))) H) := fun a o h => by
    obtain ⟨n1, n2⟩ := fre_no h
    exact fre_of (fre_same a o h) (fun z => n1 (rt a z)) n2
  have get : ∀ {k : Nat} {e : D}, ((ρ.set i (some (.list ds))).set j none)[k]? = some (some e) → k ≠ j ∧ ((k = i ∧ e = .list ds) ∨ (k ≠ i ∧ ρ[k]? = some (some e))) := fun {k e} hk => by
    obtain ⟨n, hk⟩ := set_none_get hk
    refine ⟨n, ?_⟩
    by_cases q : k = i
    · subst q
      rw [List.getElem?_set_self hil] at hk
      cases hk
      exact .inl ⟨rfl, rfl⟩
    · rw [List.getElem?_set_ne (fun z => q z.symm)] at hk
      exact .inr ⟨q, hk⟩
  refine ⟨p, h1, ?_, rt⟩
  refine ⟨by rw [List.length_set, List.length_set, List.length_set]; exact R.len, by rw [List.length_set, List.length_set]; exact R.nl, R.keep, R.src, R.exin, fun q hq => ?_, fun k e hk n => ?_, fun k e hk n => ?_, fun k q n hk => ?_, fun k l q n m hk hl => ?_, R.tabs⟩
  · obtain ⟨a1, a2, a3⟩ := R.fix q hq
    have n1 : i ≠ q.1 := fun e => a2 (by rw [← e]; exact List.mem_cons_of_mem _ hi)
    have n2 : j ≠ q.1 := fun e => a2 (by rw [← e]; exact List.mem_cons_self)
    exact ⟨by rw [List.getElem?_set_ne n1]; exact a1, fun z => a2 (List.mem_cons_of_mem _ z), by rw [List.getElem?_set_ne n2, List.getElem?_set_ne n1]; exact a3⟩
  · obtain ⟨nj, hk⟩ := get hk
    rcases hk with ⟨rfl, _⟩ | ⟨ni, hk⟩
    · exact absurd hi n
    · obtain ⟨v, v1, v2⟩ := R.val k e hk fun z => (List.mem_cons.mp z).elim nj n
      exact ⟨v, by rw [List.getElem?_set_ne (fun z => ni z.symm)]; exact v1, v2.mono fr⟩
  · obtain ⟨nj, hk⟩ := get hk
    rcases hk with ⟨rfl, rfl⟩ | ⟨ni, hk⟩
    · exact ⟨p, o, List.getElem?_set_self hil2, h2, h3.mono fr⟩
    · obtain ⟨q, u, v1, v2, v3⟩ := R.ownv k e hk (List.mem_cons_of_mem _ n)
      exact ⟨q, u, by rw [List.getElem?_set_ne (fun z => ni z.symm)]; exact v1, v2, v3.mono fr⟩
  · by_cases e : k = i
    · subst e
      rw [List.getElem?_set_self hil2] at hk
      cases hk
      exact R.root j p List.mem_cons_self h1
    · rw [List.getElem?_set_ne (fun z => e z.symm)] at hk
      exact R.root k q (List.mem_cons_of_mem _ n) hk
  · have other : ∀ {k : Nat}, k ∈ A.own → k ≠ i → σ[k]? = some (some (.ref p)) → False := fun {k} hk ne hs => by
      have := R.inj k j p (List.mem_cons_of_mem _ hk) List.mem_cons_self hs h1
      exact hj (by rw [← this]; exact hk)
    by_cases e : k = i
    · by_cases e2 : l = i
      · rw [e, e2]
      · rw [e, List.getElem?_set_self hil2] at hk
        rw [List.getElem?_set_ne (fun z => e2 z.symm)] at hl
        cases hk
        exact (other m e2 hl).elim
    · by_cases e2 : l = i
      · rw [e2, List.getElem?_set_self hil2] at hl
        rw [List.getElem?_set_ne (fun z => e z.symm)] at hk
        cases hl
        exact (other n e hk).elim
      · rw [List.getElem?_set_ne (fun z => e z.symm)] at hk
        rw [List.getElem?_set_ne (fun z => e2 z.symm)] at hl
        exact R.inj k l q (List.mem_cons_of_mem _ n) (List.mem_cons_of_mem _ m) hk hl
end
def fLend (i j : Nat) (f : FE) (g : FS) : FS := fun ρ s => (f ρ s).bind fun x => (g (ρ.set j (some x.1)) x.2).bind fun y => match y.1, y.2.1.getD j none with
  | .nx, some (.list ds) => some (.nx, (y.2.1.set i (some (.list ds))).set j none, y.2.2)
  | _, _ => none
theorem fLend_some {i j : Nat} {f : FE} {g : FS} {ρ ρ' : Env} {s s' : Src} {fl : Fl} (h : fLend i j f g ρ s = some (fl, ρ', s')) : fl = .nx ∧ ∃ d s1 ρ2 ds, f ρ s = some (d, s1) ∧ g (ρ.set j (some d)) s1 = some (.nx, ρ2, s') ∧ ρ2[j]? = some (some (.list ds)) ∧ ρ' = (ρ2.set i (some (.list ds))).set j none := by
  unfold fLend at h
  cases h0 : f ρ s with
  | none => rw [h0] at h; cases h
  | some x =>
    obtain ⟨d, s1⟩ := x
    rw [h0, Option.bind_some] at h
    cases h1 : g (ρ.set j (some d)) s1 with
    | none => rw [h1] at h; cases h
    | some y =>
      obtain ⟨f2, ρ2, s2⟩ := y
      rw [h1, Option.bind_some] at h
      dsimp only at h
      split at h
      · rename_i ds hd
        cases h
        exact ⟨rfl, d, s1, ρ2, ds, rfl, h1, getD_some hd, rfl⟩
      · cases h
section
variable {X : Cx} {own : Slots} {e : Expr} {f : FE} {g : FS} {st : Stmt} {x y : Str} {px py py2 pos pos2 : Pos}
/-- y = e; st; x = y, where y is a slot that none but these know -/
theorem sds_lend (i j : Nat) (he : PF X own e f) (hm : SD X (own.lend j) st g) (hw1 : own.own.contains i = true := by rfl) (hw2 : own.own.contains j = false := by rfl) (hw3 : own.fx.contains j = false := by rfl) (hli : i < own.n := by decide) (hlj : j < own.n := by decide) (hN : X.N.Nodup := by assumption)
    (hi : X.N[i]? = some x := by rfl) (hj : X.N[j]? = some y := by rfl) (hx : Loc X.env.scope x := by first | exact Or.inl rfl | exact Or.inr rfl) (hy : Loc X.env.scope y := by first | exact Or.inl rfl | exact Or.inr rfl)
    (hv : Vis X.env.scope y := by first | exact Or.inl rfl | exact Or.inr (Or.inl rfl) | exact Or.inr (Or.inr rfl)) (hd : (y == ("__debug__" : Str)) = false := by decide) (hcd : (y == ("__classdict__" : Str)) = false := by decide)
    (hs : swapsWith e (some (.Name y py)) pos.line X.env = pure false := by rfl) (hf : X.fn y = true ∨ X.env.scope.names.lookup y = some .local := by first | exact .inl rfl | exact .inr rfl)
    (hs2 : swapsWith (.Name y py2) (some (.Name x px)) pos2.line X.env = pure false := by rfl) (hf2 : X.fn x = true ∨ X.env.scope.names.lookup x = some .local := by first | exact .inl rfl | exact .inr rfl) :
    SDs X own [.Assign [.Name y py] e pos, st, .Assign [.Name x px] (.Name y py2) pos2] (fLend i j f g) :=
  ⟨fun A hk hw => (pss_cons (ps_set hN hj hy (he.run A hk hw) hs hf) (pss_cons (hm.run (A.lend j) hk (Act.lend_of hw)) (pss_one (ps_set hN hi hx (pe_var hj hv hd hcd) hs2 hf2)))).imp fun E σ H ⟨ρ, s, fl, ρ', s', R, hg, q⟩ => by
    obtain ⟨rfl, d, s1, ρ2, ds, h1, h2, h3, rfl⟩ := fLend_some hg
    refine ⟨ρ, s, d, s1, R, h1, fun p H1 o R1 k1 hp ho => ?_⟩
    have nj := hw.nown hw2
    have hiO := hw.isown hw1
    have hlr : j < ρ.length := by rw [R.nl, hw.n]; exact hlj
    have R2 := R1.lend nj (hw.nfix hw3) hlr hp ho
    refine ⟨ρ.set j (some d), s1, .nx, ρ2, s', R2, h2, fun σ2 H2 R3 F3 => ?_⟩
    have hlr2 : i < ρ2.length := by rw [R3.nl, show (A.lend j).n = own.n from hw.n]; exact hli
    obtain ⟨p2, g1, R4, rt⟩ := R3.unlend nj hiO hlr2 h3
    refine ⟨.ref p2, g1, q _ H2 R4 fun a u ha na nm => ?_⟩
    have b1 := k1 a u ha nm
    have nap : a ≠ p := fun e => by rw [e, hp] at b1; cases b1
    have b2 : upd H1 p o a = some u := by rw [upd_ne nap]; exact b1
    have nr : ¬ IsRoot (A.lend j) (σ.set j (some (.ref p))) a := fun ⟨k, c1, c2⟩ => by
      rcases List.mem_cons.mp c1 with e | e
      · rw [e, List.getElem?_set_self (by rw [← R.len]; exact hlr)] at c2
        cases c2
        exact nap rfl
      · have ne : j ≠ k := fun z => nj (by rw [z]; exact e)
        rw [List.getElem?_set_ne ne] at c2
        exact na ⟨k, e, c2⟩
    obtain ⟨z1, z2⟩ := F3 a u b2 nr nm
    exact ⟨z1, fun z => z2 (rt a z)⟩⟩
end
end DL
/-! for x in a list of the def's own that the body leaves alone. -/
namespace DL
open PySem PySem.Spec PyProof.Rows L2 GX
section
variable {A : Act} {W : Slots} {ρ : Env} {s s' : Src} {σ : L2.St} {H H1 : Hp} {i : Nat} {d : Addr} {u : HO} {od : Obj}
theorem Rel.hideG (R : Rel A ρ s σ H) (hi : i ∈ A.own) (hd : σ[i]? = some (some (.ref d))) (hl : i < ρ.length) (o' : HO) : Rel (A.hide i d o') (ρ.set i none) s σ (upd H d o') := by
  obtain ⟨r1, r2, ro, r3⟩ := R.root i d hi hd
  have nd : ∀ {a}, A.H0 a ≠ none → a ≠ d := fun h e => h (by rw [e]; exact r1)
  have sm : Same (fre A σ H) (fre (A.hide i d o') σ (upd H d o')) := hide_fre hi hd
  refine ⟨by rw [List.length_set]; exact R.len, by rw [List.length_set]; exact R.nl, fun a o h n => ?_, fun p h => ?_, fun a h => ?_, fun p h => ?_, fun j e h n => ?_, fun j e h n => ?_, fun j p n h => ?_, fun j k p n m h h2 => ?_, fun p h => ?_⟩
  · by_cases e : a = d
    · subst e
      rw [upd_same]
      have h : upd A.H0 a o' a = some o := h
      rw [upd_same] at h
      exact h
    · rw [upd_ne e]
      have h : upd A.H0 d o' a = some o := h
      rw [upd_ne e] at h
      exact R.keep a o h n
  · obtain ⟨a1, a2, a3⟩ := R.src p h
    exact ⟨by rw [upd_ne (nd a2)]; exact a1, by show upd A.H0 d _ p ≠ none; rw [upd_ne (nd a2)]; exact a2, .inl a3⟩
  · by_cases e : a = d
    · subst e; exact ⟨_, upd_same⟩
    · obtain ⟨o, q⟩ := R.exin a (h.resolve_right e)
      exact ⟨o, by rw [upd_ne e]; exact q⟩
  · rcases List.mem_cons.mp h with z | z
    · subst z
      exact ⟨hd, fun z => (hide_own.mp z).2 rfl, by rw [List.getElem?_set_self hl]⟩
    · obtain ⟨a1, a2, a3⟩ := R.fix p z
      have ne : p.1 ≠ i := fun e => a2 (by rw [e]; exact hi)
      exact ⟨a1, fun z => a2 (hide_own.mp z).1, by rw [List.getElem?_set_ne (fun z => ne z.symm)]; exact a3⟩
  · obtain ⟨ne, h⟩ := set_none_get h
    obtain ⟨v, h1, h2⟩ := R.val j e h fun z => n (hide_own.mpr ⟨z, ne⟩)
    exact ⟨v, h1, h2.mono sm⟩
  · obtain ⟨ne, h⟩ := set_none_get h
    obtain ⟨p, o, h1, h2, h3⟩ := R.ownv j e h (hide_own.mp n).1
    have np : p ≠ d := fun z => ne (R.inj j i p (hide_own.mp n).1 hi h1 (by rw [z]; exact hd))
    exact ⟨p, o, h1, by rw [upd_ne np]; exact h2, h3.mono sm⟩
  · obtain ⟨n1, n2⟩ := hide_own.mp n
    obtain ⟨a1, a2, o, a3⟩ := R.root j p n1 h
    have np : p ≠ d := fun z => n2 (R.inj j i p n1 hi h (by rw [z]; exact hd))
    exact ⟨by show upd A.H0 d _ p = none; rw [upd_ne np]; exact a1, fun z => z.elim a2 np, o, by rw [upd_ne np]; exact a3⟩
  · exact R.inj j k p (hide_own.mp n).1 (hide_own.mp m).1 h h2
  · obtain ⟨t, u1, u2⟩ := R.tabs p h
    exact ⟨t.keep fun o e => by rw [upd_ne (nd u1)]; exact e, by show upd A.H0 d _ p ≠ none; rw [upd_ne (nd u1)]; exact u1, .inl u2⟩
theorem upd_eta {H : Hp} {p : Addr} {o : HO} (h : H p = some o) : upd H p o = H := by
  funext a
  by_cases e : a = p
  · subst e; rw [upd_same, h]
  · rw [upd_ne e]
theorem Rel.showG {o : HO} {dd : D} (R : Rel (A.hide i d o) ρ s σ H) (hi : i ∈ A.own) (r1 : A.H0 d = none) (r2 : ¬ A.ex d) (nm : ¬ A.mv d) (hf : ∀ q, q ∈ A.fix → q.1 ∉ A.own) (hl : i < ρ.length) (h0 : ∀ q, A.src = some q → A.H0 q ≠ none ∧ A.ex q) (ht : ∀ q, A.tb q → A.H0 q ≠ none ∧ A.ex q)
    (ho : HasO A.K A.w (fre A σ H) d o dd) : Rel A (ρ.set i (some dd)) s σ H ∧ σ[i]? = some (some (.ref d)) ∧ H d = some o := by
  have hd : σ[i]? = some (some (.ref d)) := (R.fix (i, .ref d) List.mem_cons_self).1
  have hH : H d = some o := R.keep d o upd_same nm
  have sm : Same (fre (A.hide i d o) σ H) (fre A σ H) := fun a u h => by
    obtain ⟨n1, n2⟩ := fre_no h
    refine fre_of (fre_same a u h) (fun z => ?_) fun z => n2 (.inl z)
    exact ((hide_root (u := o) hi hd).mp z).elim n1 fun e => n2 (.inr e)
  have inot : ∀ {j : Nat} {p : Addr}, j ∈ A.own → j ≠ i → σ[j]? = some (some (.ref p)) → p ≠ d := fun {j p} hj ne h e => by
    have := (R.root j p (hide_own.mpr ⟨hj, ne⟩) h).2.1
    exact this (.inr e)
  refine ⟨⟨by rw [List.length_set]; exact R.len, by rw [List.length_set]; exact R.nl, fun a u h n => ?_, fun p h => ?_, fun a h => R.exin a (.inl h), fun q h => ?_, fun j e h n => ?_, fun j e h n => ?_, fun j p n h => ?_, fun j k p n m h h2 => ?_, fun p h => ?_⟩, hd, hH⟩
  · have ne : a ≠ d := fun e => by rw [e, r1] at h; cases h
    exact R.keep a u (by show upd A.H0 d o a = some u; rw [upd_ne ne]; exact h) n
  · exact ⟨(R.src p h).1, h0 p h⟩
  · obtain ⟨a1, a2, a3⟩ := R.fix q (List.mem_cons_of_mem _ h)
    have ne : i ≠ q.1 := fun e => hf q h (by rw [← e]; exact hi)
    exact ⟨a1, hf q h, by rw [List.getElem?_set_ne ne]; exact a3⟩
  · have ne : i ≠ j := fun e => n (by rw [← e]; exact hi)
    rw [List.getElem?_set_ne ne] at h
    obtain ⟨v, h1, h2⟩ := R.val j e h fun z => n (hide_own.mp z).1
    exact ⟨v, h1, h2.mono sm⟩
  · by_cases q : j = i
    · subst q
      rw [List.getElem?_set_self hl] at h
      cases h
      exact ⟨d, o, hd, hH, ho⟩
    · rw [List.getElem?_set_ne (fun z => q z.symm)] at h
      obtain ⟨p, u, h1, h2, h3⟩ := R.ownv j e h (hide_own.mpr ⟨n, q⟩)
      exact ⟨p, u, h1, h2, h3.mono sm⟩
  · by_cases q : j = i
    · subst q
      rw [hd] at h
      cases h
      exact ⟨r1, r2, o, hH⟩
    · obtain ⟨a1, a2, a3⟩ := R.root j p (hide_own.mpr ⟨n, q⟩) h
      have np := inot n q h
      have a1 : upd A.H0 d o p = none := a1
      rw [upd_ne np] at a1
      exact ⟨a1, fun z => a2 (.inl z), a3⟩
  · by_cases q : j = i
    · by_cases q2 : k = i
      · rw [q, q2]
      · rw [q, hd] at h
        cases h
        exact absurd rfl (inot m q2 h2)
    · by_cases q2 : k = i
      · rw [q2, hd] at h2
        cases h2
        exact absurd rfl (inot n q h)
      · exact R.inj j k p (hide_own.mpr ⟨n, q⟩) (hide_own.mpr ⟨m, q2⟩) h h2
  · exact ⟨(R.tabs p h).1, ht p h⟩
end
def fForO (i : Nat) (set : D → Env → Option Env) (body : FS) : FS := fun ρ s => match ρ.getD i none with
  | some (.list ds) => (fLoop set body ds (ρ.set i none) s).map fun y => (y.1, y.2.1.set i (some (.list ds)), y.2.2)
  | _ => none
section
variable {X : Cx} {own : Slots} {tg : Expr} {body : List Stmt} {js : List Nat} {set : D → Env → Option Env} {fb : FS} {pos px : Pos} {x0 : Str}
theorem sd_forOwn (i : Nat) (hg : PGD X (own.hide i) tg js set) (hb : SDs X (own.hide i) body fb) (hi : own.own.contains i = true := by rfl) (hli : i < own.n := by decide) (hN : X.N[i]? = some x0 := by rfl) (hv : Vis X.env.scope x0 := by first | exact Or.inl rfl | exact Or.inr (Or.inl rfl) | exact Or.inr (Or.inr rfl))
    (hd : (x0 == ("__debug__" : Str)) = false := by decide) (hcd : (x0 == ("__classdict__" : Str)) = false := by decide) (hp : PassesOwn (model X.prog X.w) X.A X.env X.xe := by exact PassesOwn.never) (hc : X.calm = true := by rfl)
    (hs : ∀ v, foldedSetIterable (.Name x0 px) X.env v = pure v := by intro _; rfl) : SD X own (.For tg (.Name x0 px) body [] pos) (fForO i set fb) :=
  ⟨fun A hk hw => (ps_for hp hc (pi_seq (pe_var hN hv hd hcd)) (⟨fun pins s σ H v u Q I r ⟨B, b1, b2, q⟩ => (hg.run B b1 b2).run pins s σ H v u Q I r q⟩ : PG X tg fun v σ H Q => ∃ B : Act, B.At X ∧ B.Of (own.hide i) ∧ tG B js set v σ H Q)
      (⟨fun pins s σ H D I ⟨B, b1, b2, h⟩ => (hb.run B b1 b2).run pins s σ H D I h⟩ : PSs X body fun E σ H => ∃ B : Act, B.At X ∧ B.Of (own.hide i) ∧ tS B fb E σ H) hs).imp fun E σ H h => by
    obtain ⟨ρ, s, fl, ρ', s', R, hf, q⟩ := of_tS h
    have hiO := hw.isown hi
    unfold fForO at hf
    split at hf
    case h_2 => cases hf
    rename_i ds hρi
    cases hlp : fLoop set fb ds (ρ.set i none) s with
    | none => rw [hlp] at hf; cases hf
    | some yy =>
    obtain ⟨fl0, ρ0, s0⟩ := yy
    rw [hlp] at hf
    cases hf
    obtain ⟨p, o, g1, g2, g3⟩ := R.ownv i _ (getD_some hρi) hiO
    obtain ⟨vs, rfl, da⟩ := g3
    obtain ⟨r1, r2, _⟩ := R.root i p hiO g1
    have nm : ¬ A.mv p := fun z => r2 (R.mvEx z)
    have hil : i < ρ.length := by rw [R.nl, hw.n]; exact hli
    have Rb := R.hideG hiO g1 hil (.lst vs)
    rw [upd_eta g2] at Rb
    generalize hB : A.hide i p (.lst vs) = B at Rb
    have B1 : B.At X := by rw [← hB]; exact hk
    have B2 : B.Of (own.hide i) := by rw [← hB]; exact Act.hide_of hw
    have BK : B.K = A.K := by rw [← hB]; rfl
    have Bmv : ∀ a, B.mv a ↔ A.mv a := fun a => by rw [← hB]; exact Iff.rfl
    have rootB : ∀ {σ' : L2.St} {a : Addr}, IsRoot B σ' a → IsRoot A σ' a := fun {σ' a} ⟨k, c1, c2⟩ => by
      rw [← hB] at c1
      exact ⟨k, (hide_own.mp c1).1, c2⟩
    have daB : DenAll B.K (fre B σ H) vs ds := by
      rw [BK]
      refine da.mono fun a u ha => ?_
      obtain ⟨n1, n2⟩ := fre_no ha
      refine fre_of (fre_same a u ha) (fun z => n1 (rootB z)) fun z => ?_
      rw [← hB] at z
      exact z.elim n2 fun e => n1 ⟨i, hiO, by rw [e]; exact g1⟩
    -- all ends, back in the def's own slots
    have fin : ∀ {σ' : L2.St} {H' : Hp}, Rel B ρ0 s0 σ' H' → Fr B σ H σ' H' → Rel A (ρ0.set i (some (.list ds))) s0 σ' H' ∧ Fr A σ H σ' H' := fun {σ' H'} R' F' => by
      have FA : ∀ a u, H a = some u → ¬ IsRoot A σ a → ¬ A.mv a → H' a = some u ∧ ¬ IsRoot B σ' a := fun a u ha na nma => F' a u ha (fun z => na (rootB z)) fun z => nma ((Bmv a).mp z)
      have hd' : σ'[i]? = some (some (.ref p)) := by
        rw [← hB] at R'
        exact (R'.fix (i, .ref p) List.mem_cons_self).1
      have nroot : ∀ a, a ≠ p → ¬ IsRoot B σ' a → ¬ IsRoot A σ' a := fun a ne nb z => by
        rw [← hB] at nb
        exact ((hide_root (u := .lst vs) hiO hd').mp z).elim nb ne
      have ho : HasO A.K A.w (fre A σ' H') p (.lst vs) (.list ds) := ⟨vs, rfl, da.mono fun a u ha => by
        obtain ⟨n1, n2⟩ := fre_no ha
        obtain ⟨z1, z2⟩ := FA a u (fre_same a u ha) n1 fun z => n2 (R.mvEx z)
        exact fre_of z1 (nroot a (fun e => n1 ⟨i, hiO, by rw [e]; exact g1⟩) z2) n2⟩
      rw [← hB] at R'
      have hl0 : i < ρ0.length := by rw [R'.nl]; show i < A.n; rw [hw.n]; exact hli
      refine ⟨(R'.showG hiO r1 r2 nm (fun q hq => (R.fix q hq).2.1) hl0 (fun q hq => (R.src q hq).2) (fun q hq => (R.tabs q hq).2) ho).1, fun a u ha na nma => ?_⟩
      obtain ⟨z1, z2⟩ := FA a u ha na nma
      exact ⟨z1, nroot a (fun e => na ⟨i, hiO, by rw [e]; exact g1⟩) z2⟩
    have barB : ∀ {H' : Hp}, Same (bar B H') (bar A H') := fun {H'} a u ha => by
      unfold bar at ha
      split at ha
      · cases ha
      · rename_i nx
        exact bar_of ha fun z => nx (by rw [← hB]; exact .inl z)
    have wk := walkL (K := B.K) (C := fre B σ H) (a := p) daB
    have notF : ∀ a u, onlyAt p (.lst vs) a = some u → ¬ B.mv a ∧ ¬ IsRoot B σ a := fun a u ha => by
      obtain ⟨rfl, _⟩ := onlyAt_some ha
      refine ⟨fun z => nm ((Bmv a).mp z), fun ⟨k, c1, c2⟩ => ?_⟩
      rw [← hB] at c1
      obtain ⟨c3, c4⟩ := hide_own.mp c1
      exact c4 (R.inj k i a c3 hiO c2 g1)
    have smO : Same (onlyAt p (.lst vs)) H := fun a u ha => by
      obtain ⟨rfl, rfl⟩ := onlyAt_some ha
      exact g2
    rw [BK, hk.1] at wk
    refine ⟨.ref p, g1, p, rfl, .inl ⟨⟨vs, SqL.of g2⟩, ?_⟩⟩
    refine ⟨fun k m σ2 H2 => m = ds.length - k ∧ k ≤ ds.length ∧ ∃ ρ2 s2, Rel B ρ2 s2 σ2 H2 ∧ Fr B σ H σ2 H2 ∧ fLoop set fb (ds.drop k) ρ2 s2 = some (fl0, ρ0, s0), ⟨ds.length, by omega, Nat.zero_le _, _, s, Rb, Fr.refl _ _ _, hlp⟩, ?_⟩
    rintro k m σ2 H2 ⟨rfl, hk2, ρ2, s2, R2, F2, hl⟩
    have smF : Same (onlyAt p (.lst vs)) H2 := fun a u ha => (F2 a u (smO a u ha) (notF a u ha).2 (notF a u ha).1).1
    by_cases hlt : k < ds.length
    · refine .inr ⟨wk.goes k H2 hlt smF, ?_⟩
      obtain ⟨di, hdi⟩ : ∃ d, ds[k]? = some d := ⟨ds[k], by simp [hlt]⟩
      have hdrop : ds.drop k = di :: ds.drop (k + 1) := by
        rw [List.drop_eq_getElem_cons hlt]
        have := List.getElem?_eq_getElem hlt
        rw [hdi] at this
        injection this with e
        rw [e]
      rw [hdrop] at hl
      unfold fLoop at hl
      cases h1 : set di ρ2 with
      | none => rw [h1] at hl; cases hl
      | some ρ3 =>
        rw [h1, Option.bind_some] at hl
        cases h2 : fb ρ3 s2 with
        | none => rw [h2] at hl; cases hl
        | some x =>
          obtain ⟨f4, ρ4, s4⟩ := x
          rw [h2, Option.bind_some] at hl
          refine ⟨fun σ' H' => ∃ ρ5 s5, Rel B ρ5 s5 σ' H' ∧ Fr B σ H σ' H' ∧ fLoop set fb (ds.drop (k + 1)) ρ5 s5 = some (fl0, ρ0, s0), fun σ' H' ⟨ρ5, s5, R5, F5, l5⟩ => ⟨ds.length - (k + 1), by omega, rfl, hlt, ρ5, s5, R5, F5, l5⟩, fun v H3 hy => ?_⟩
          obtain ⟨d, e1, e2⟩ := wk.yields k H2 v H3 hlt smF hy
          rw [hdi] at e1
          injection e1 with e1
          subst e1
          have C2 : Same (fre B σ H) (fre B σ2 H2) := fun a u ha => by
            obtain ⟨n1, n2⟩ := fre_no ha
            have := F2 a u (fre_same a u ha) n1 fun z => n2 (Rb.mvEx z)
            exact fre_of this.1 this.2 n2
          have hv3 : Rel B ρ2 s2 σ2 H3 ∧ Kp B H2 H3 ∧ Den B.K (fre B σ2 H3) v di := by
            rw [BK, hk.1]
            rcases e2 with ⟨rfl, d2⟩ | ⟨T, ws, es, rfl, hT, rfl, d2, rfl, np⟩
            · exact ⟨R2, Kp.refl _ _, d2.mono C2⟩
            · have z := den_tup R2 hT (by rw [BK, hk.1]; exact d2.mono C2) np
              rw [BK, hk.1] at z
              exact ⟨R2.mono (same_upd hT), Kp.of (same_upd hT), z⟩
          obtain ⟨R3, k3, d3⟩ := hv3
          refine ⟨B, B1, B2, ρ2, s2, di, ρ3, R3, d3, h1, fun σ3 R4 _ r4 => ⟨B, B1, B2, ?_⟩⟩
          have F3 : Fr B σ H σ3 H3 := F2.trans (k3.fr.trans fun a u ha n z => ⟨ha, fun w => n ((r4 a).mp w)⟩)
          refine tS_of R4 h2 ?_
          cases f4 with
          | nx => exact fun σ' H' R5 F5 => ⟨ρ4, s4, R5, F3.trans F5, hl⟩
          | ct => exact fun σ' H' R5 F5 => ⟨ρ4, s4, R5, F3.trans F5, hl⟩
          | bk =>
            cases hl
            exact fun σ' H' R5 F5 => let z := fin R5 (F3.trans F5); q σ' H' z.1 z.2
          | rt w =>
            cases hl
            exact fun v σ' H' R5 F5 hd => let z := fin R5 (F3.trans F5); q v σ' H' z.1 z.2 (by rw [← BK]; exact hd.mono barB)
    · have ei : k = ds.length := by omega
      subst ei
      rw [List.drop_length] at hl
      cases hl
      have z := fin R2 F2
      exact .inl ⟨wk.stops H2 smF, q σ2 H2 z.1 z.2⟩⟩
end
end DL
/-! zip of three tuples. -/
namespace GX
open PySem PySem.Spec PyProof.Rows L2
/-- the tuples at a, b, c as they stand at each turn, the items in new triples -/
def Itz3 (K : PySem.W.Frag) (a b c : Addr) : It :=
  ⟨fun i H => ∃ (xs ys zs : List V) (x y z : V), SqT K H a xs ∧ SqT K H b ys ∧ SqT K H c zs ∧ xs[i]? = some x ∧ ys[i]? = some y ∧ zs[i]? = some z,
    fun i H v H' => ∃ T x y z, v = .ref T ∧ H T = none ∧ H' = upd H T (.tup [x, y, z]) ∧ (∀ xs, SqT K H a xs → xs[i]? = some x) ∧ (∀ ys, SqT K H b ys → ys[i]? = some y) ∧ ∀ zs, SqT K H c zs → zs[i]? = some z,
    fun i H => ∃ xs ys zs : List V, SqT K H a xs ∧ SqT K H b ys ∧ SqT K H c zs ∧ i ≤ xs.length ∧ i ≤ ys.length ∧ i ≤ zs.length ∧ (xs.length = i ∨ ys.length = i ∨ zs.length = i)⟩
theorem sep3 {n a b c : Nat} (ha : a < n) (hb : b < n) (hc : c < n) : ZipSep3 (n + 5) (n + 3) (n + 4) n (n + 1) (n + 2) [n, a] [n + 1, b] [n + 2, c] := by
  have ne : ∀ {x y : Nat}, x ≠ y → ¬(x = y) := fun h => h
  constructor <;> (simp only [List.mem_cons, List.not_mem_nil, or_false, ne_eq]) <;> (first | (intro q; (try rcases q with q | q) <;> (have q : @Eq Nat _ _ := q; omega)) | exact .inl trivial | exact .inl rfl)
theorem turn_zip3 {P : Program} {w : World} {K : PySem.W.Frag} {elts : List Expr} {kk : Nat} {tpos : Pos} {a b c z TI TO i1 i2 i3 : Addr} (S : ZipSep3 z TI TO i1 i2 i3 [i1, a] [i2, b] [i3, c]) (n1 : a ≠ i1) (n2 : b ≠ i2) (n3 : c ≠ i3) :
    Turn P w K (.Tuple elts kk tpos) (Itz3 K a b c) [z, TI, TO, i1, i2, i3] z (fun i h => IsZip h z TI TO .none ∧ IsTupOf3 h TI (.ref i1) (.ref i2) (.ref i3) ∧ (∃ x y v, IsTupOf3 h TO x y v) ∧ h.IsTupleIter i1 a i ∧ h.IsTupleIter i2 b i ∧ h.IsTupleIter i3 c i) where
  mem := by simp
  obj := fun i h st e he => by
    obtain ⟨hz, hTI, ⟨x, y, v, hTO⟩, ⟨o1, e1, _, d1⟩, ⟨o2, e2, _, d2⟩, ⟨o3, e3, _, d3⟩⟩ := st
    have e' : e = z ∨ e = TI ∨ e = TO ∨ e = i1 ∨ e = i2 ∨ e = i3 := by simpa using he
    rcases e' with q | q | q | q | q | q
    · rw [q]; exact ⟨_, hz, fun v q => nomatch q⟩
    · rw [q]; exact ⟨_, hTI, fun v q => nomatch q⟩
    · rw [q]; exact ⟨_, hTO, fun v q => nomatch q⟩
    · rw [q]; exact ⟨o1, e1, fun v q => by rw [d1] at q; cases q⟩
    · rw [q]; exact ⟨o2, e2, fun v q => by rw [d2] at q; cases q⟩
    · rw [q]; exact ⟨o3, e3, fun v q => by rw [d3] at q; cases q⟩
  keep := fun i h h' st k => by
    obtain ⟨hz, hTI, ⟨x, y, v, hTO⟩, h1, h2, h3⟩ := st
    exact ⟨k z (by simp) _ hz, k TI (by simp) _ hTI, ⟨x, y, v, k TO (by simp) _ hTO⟩, h1.at fun o q => k i1 (by simp) o q, h2.at fun o q => k i2 (by simp) o q, h3.at fun o q => k i3 (by simp) o q⟩
  item := by
    intro X hP hw hK hc i pins s σ H E I hf st hg
    subst hP hw hK
    obtain ⟨hz, hTI, ⟨x0, y0, v0, hTO⟩, h1, h2, h3⟩ := st
    obtain ⟨xs, ys, zs, x, y, v, hqx, hqy, hqz, hx, hy, hv⟩ := hg
    obtain ⟨its, rv, p, _⟩ := I.tuple hqx
    obtain ⟨its2, rv2, p2, _⟩ := I.tuple hqy
    obtain ⟨its3, rv3, p3, _⟩ := I.tuple hqz
    obtain ⟨u, hu, ru⟩ := rv.get hx
    obtain ⟨u2, hu2, ru2⟩ := rv2.get hy
    obtain ⟨u3, hu3, ru3⟩ := rv3.get hv
    have hzl : z < s.heap.objs.size := Heap.lt_size hz
    have hnd := I.ok.hd hc
    have g1 : i < its.toArray.size := by have := (List.getElem?_eq_some_iff.mp hu).1; simpa using this
    have g2 : i < its2.toArray.size := by have := (List.getElem?_eq_some_iff.mp hu2).1; simpa using this
    have g3 : i < its3.toArray.size := by have := (List.getElem?_eq_some_iff.mp hu3).1; simpa using this
    refine wpAny_pyNext_zipD3_item S (Draws.tuple (A := X.A.in1) (show X.A.in1.handled = none from hnd) i1 a n1 its.toArray) (Draws.tuple (A := X.A.in1) (show X.A.in1.handled = none from hnd) i2 b n2 its2.toArray) (Draws.tuple (A := X.A.in1) (show X.A.in1.handled = none from hnd) i3 c n3 its3.toArray) hz hTI hTO ⟨h1, p⟩ ⟨h2, p2⟩ ⟨h3, p3⟩ g1 g2 g3
      fun w1 w2 w3 h' tk y1 y2 y3 z' TO' d1 d2 d3 hT hsz hk => ?_
    have y1 : its[i]? = some w1 := by simpa using y1
    have y2 : its2[i]? = some w2 := by simpa using y2
    have y3 : its3[i]? = some w3 := by simpa using y3
    rw [hu] at y1
    rw [hu2] at y2
    rw [hu3] at y3
    cases y1
    cases y2
    cases y3
    refine ⟨_, rfl, wpAny_letOwnedTupleGo_zip (s := { s with heap := h', toks := tk }) z' fun h'' z'' sb => ?_⟩
    have hT2 : h''.get? s.heap.objs.size = some { cls := .type "tuple", data := .seq #[u, u2, u3] } := (sb.2 _ (Nat.ne_of_gt hzl)).trans hT
    have new : ObjOk X.prog X.w (upd H s.heap.objs.size (.tup [x, y, v])) h'' s.heap.objs.size (.tup [x, y, v]) :=
      ⟨by show 3 ≤ sizeLine; decide, [u, u2, u3], .cons ru (.cons ru2 (.cons ru3 .nil)), ⟨_, hT2, rfl, _, rfl⟩⟩
    have I1 : Inv X pins σ (upd H s.heap.objs.size (.tup [x, y, v])) { s with heap := h'', toks := tk } :=
      I.turnedNew (t' := tk) (ch := [z, TI, TO, i1, i2, i3]) (fun e o hb q => (sb.2 e (fun q' => hb (by simp [q']))).trans (hk e o (fun q' => hb (by simp [q'])) (fun q' => hb (by simp [q'])) (fun q' => hb (by simp [q'])) (fun q' => hb (by simp [q'])) (fun q' => hb (by simp [q'])) q)) hf (Nat.le_refl _) new
    refine ⟨.ref s.heap.objs.size, _, I1, rfl, ⟨_, x, y, v, rfl, I.hok.fresh (Nat.le_refl _), rfl, fun l hl => by rw [I.tuple_inj hl hqx]; exact hx, fun l hl => by rw [I.tuple_inj hl hqy]; exact hy, fun l hl => by rw [I.tuple_inj hl hqz]; exact hv⟩, ⟨z'', ?_, ⟨u, u2, u3, ?_⟩, ?_, ?_, ?_⟩, fun e hcm => ?_⟩
    · exact (sb.2 _ S.TIz).trans (hk _ _ S.TIz S.TITO S.TIi1 S.TIi2 S.TIi3 hTI)
    · exact (sb.2 _ S.TOz).trans TO'
    · exact d1.1.at fun o q => (sb.2 _ S.zi1.symm).trans q
    · exact d2.1.at fun o q => (sb.2 _ S.zi2.symm).trans q
    · exact d3.1.at fun o q => (sb.2 _ S.zi3.symm).trans q
    · have hlt : e < s.heap.objs.size := by
        have e' : e = z ∨ e = TI ∨ e = TO ∨ e = i1 ∨ e = i2 ∨ e = i3 := by simpa using hcm
        rcases e' with q | q | q | q | q | q
        · rw [q]; exact hzl
        · rw [q]; exact Heap.lt_size hTI
        · rw [q]; exact Heap.lt_size hTO
        · rw [q]; obtain ⟨_, e1, _⟩ := h1; exact Heap.lt_size e1
        · rw [q]; obtain ⟨_, e2, _⟩ := h2; exact Heap.lt_size e2
        · rw [q]; obtain ⟨_, e3, _⟩ := h3; exact Heap.lt_size e3
      rw [upd_ne (Nat.ne_of_lt hlt)]
      exact (hf e hcm).1
  done := by
    intro X hP hw hK hc i pins s σ H E I hf st hg
    subst hP hw hK
    obtain ⟨hz, hTI, ⟨x0, y0, v0, hTO⟩, h1, h2, h3⟩ := st
    obtain ⟨xs, ys, zs, hqx, hqy, hqz, b1, b2, b3, hend⟩ := hg
    obtain ⟨its, rv, p, _⟩ := I.tuple hqx
    obtain ⟨its2, rv2, p2, _⟩ := I.tuple hqy
    obtain ⟨its3, rv3, p3, _⟩ := I.tuple hqz
    have l1 := rv.length
    have l2 := rv2.length
    have l3 := rv3.length
    have hnd := I.ok.hd hc
    have m1 : its.toArray.size = xs.length := by rw [List.size_toArray]; omega
    have m2 : its2.toArray.size = ys.length := by rw [List.size_toArray]; omega
    have m3 : its3.toArray.size = zs.length := by rw [List.size_toArray]; omega
    exact wpAny_pyNext_zipD3_end S (Draws.tuple (A := X.A.in1) (show X.A.in1.handled = none from hnd) i1 a n1 its.toArray) (Draws.tuple (A := X.A.in1) (show X.A.in1.handled = none from hnd) i2 b n2 its2.toArray) (Draws.tuple (A := X.A.in1) (show X.A.in1.handled = none from hnd) i3 c n3 its3.toArray) hz hTI hTO ⟨h1, p⟩ ⟨h2, p2⟩ ⟨h3, p3⟩ (by omega) (by omega) (by omega) (by omega)
      fun h' tk hk => ⟨rfl, I.turnedL (t' := tk) (ch := [z, TI, TO, i1, i2, i3]) (fun e o hb q => hk e o (fun q' => hb (by simp [q'])) (fun q' => hb (by simp [q'])) (fun q' => hb (by simp [q'])) (fun q' => hb (by simp [q'])) (fun q' => hb (by simp [q'])) q) hf⟩
  self := fun A i s Q E st h => wpAny_pyIter_zip st.1 h
def iZip3 (K : PySem.W.Frag) (ta : TA) : TI := fun σ H R => ta σ H fun vs H1 => ∃ a b c xs ys zs, vs = [.ref a, .ref b, .ref c] ∧ SqT K H1 a xs ∧ SqT K H1 b ys ∧ SqT K H1 c zs ∧ R (Itz3 K a b c) H1
theorem pi_zip3 {X : Cx} {e e2 e3 : Expr} {ta : TA} {p pos tpos : Pos} {elts : List Expr} {kk : Nat} (hg : Gl X "zip") (hm : X.mg "zip" = none) (ha : PA X [e, e2, e3] ta)
    (hs : starEach [e, e2, e3] X.env = (false, eval e X.env) :: starEach [e2, e3] X.env := by rfl) (hpl : (backTo pos (starEach [e2, e3] X.env)).any (·.1) = false := by rfl) :
    PI X (.Tuple elts kk tpos) (.Call (.Name "zip" p) [e, e2, e3] [] pos) (iZip3 X.K ta) := by
  refine ⟨fun pins s σ H R I h => ?_⟩
  refine Call_ (ld_blt I hg hm PyProof.Rows.boot_zip (PyProof.Rows.callWith_type1 (thn (ha.run pos pins s σ H _ I h) fun us s1 ⟨vs, H1, I1, r1, q1⟩ => ?_) hs hpl))
  obtain ⟨a, b, c, xs, ys, zs, ex, hqx, hqy, hqz, q⟩ := q1
  subst ex
  cases r1 with
  | cons r rr =>
    cases rr with
    | cons r' rr =>
      cases rr with
      | cons r'' rr =>
        cases rr
        cases r
        cases r'
        cases r''
        have fresh6 : ∀ e, e ∈ [s1.heap.objs.size + 5, s1.heap.objs.size + 3, s1.heap.objs.size + 4, s1.heap.objs.size, s1.heap.objs.size + 1, s1.heap.objs.size + 2] → FpOk X pins H1 e := fun e hcm => by
          have hle : s1.heap.objs.size ≤ e := by
            simp only [List.mem_cons, List.not_mem_nil, or_false] at hcm
            omega
          exact I1.fpOk hle (I1.hok.fresh hle)
        obtain ⟨its, rv, p1, _⟩ := I1.tuple hqx
        obtain ⟨its2, rv2, p2, _⟩ := I1.tuple hqy
        obtain ⟨its3, rv3, p3, _⟩ := I1.tuple hqz
        obtain ⟨o1, ho1, _⟩ := id p1
        obtain ⟨o2, ho2, _⟩ := id p2
        obtain ⟨o3, ho3, _⟩ := id p3
        have la := Heap.lt_size ho1
        have lb := Heap.lt_size ho2
        have lc := Heap.lt_size ho3
        refine zip_begins3 (begins_tuple a its.toArray) (begins_tuple b its2.toArray) (begins_tuple c its3.toArray) p1 p2 p3 fun h' hz hTI hTO h1 h2 h3 hsz hk => wpAny_pyIter_zip hz ?_
        have I2 : Inv X pins σ H1 { s1 with heap := h' } := I1.kept (t' := s1.toks) hk
        exact ⟨s1.heap.objs.size + 5, [s1.heap.objs.size + 5, s1.heap.objs.size + 3, s1.heap.objs.size + 4, s1.heap.objs.size, s1.heap.objs.size + 1, s1.heap.objs.size + 2], _, _, H1, rfl, I2,
          turn_zip3 (sep3 la lb lc) (Nat.ne_of_lt la) (Nat.ne_of_lt (Nat.lt_succ_of_lt lb)) (Nat.ne_of_lt (Nat.lt_succ_of_lt (Nat.lt_succ_of_lt lc))), ⟨hz, hTI, ⟨_, _, _, hTO⟩, ⟨_, h1, rfl, rfl⟩, ⟨_, h2, rfl, rfl⟩, ⟨_, h3, rfl, rfl⟩⟩, fresh6, q⟩
end GX
namespace DL
open PySem PySem.Spec PyProof.Rows L2 GX
def zip3D : List D → List D → List D → List D
  | x :: xs, y :: ys, z :: zs => .tuple [x, y, z] :: zip3D xs ys zs
  | _, _, _ => []
theorem zip3_len : ∀ xs ys zs : List D, (zip3D xs ys zs).length = min (min xs.length ys.length) zs.length
  | [], _, _ => by simp [zip3D]
  | _ :: _, [], _ => by simp [zip3D]
  | _ :: _, _ :: _, [] => by simp [zip3D]
  | x :: xs, y :: ys, z :: zs => by
    rw [zip3D, List.length_cons, zip3_len xs ys zs, List.length_cons, List.length_cons, List.length_cons]
    omega
theorem zip3_get : ∀ {xs ys zs : List D} {i : Nat} {x y z : D}, xs[i]? = some x → ys[i]? = some y → zs[i]? = some z → (zip3D xs ys zs)[i]? = some (.tuple [x, y, z])
  | x :: xs, y :: ys, z :: zs, 0, _, _, _, h1, h2, h3 => by
    simp at h1 h2 h3
    subst h1 h2 h3
    rfl
  | x :: xs, y :: ys, z :: zs, i + 1, _, _, _, h1, h2, h3 => by
    rw [zip3D, List.getElem?_cons_succ]
    exact zip3_get (by simpa using h1) (by simpa using h2) (by simpa using h3)
def dZip3 : List D → Option (List D)
  | [.tuple xs, .tuple ys, .tuple zs] => if noPl (zip3D xs ys zs) = true then some (zip3D xs ys zs) else none
  | _ => none
theorem walkZ3 {K : PySem.W.Frag} {F C : Hp} {a b c : Addr} {vs ws us : List V} {ds es fs : List D} (h1 : DenAll K C vs ds) (h2 : DenAll K C ws es) (h3 : DenAll K C us fs) (ha : SqT K F a vs) (hb : SqT K F b ws) (hc : SqT K F c us) (np : noPl (zip3D ds es fs) = true) :
    WalkD K F C (Itz3 K a b c) (zip3D ds es fs) where
  goes := fun i H hi sm => by
    rw [zip3_len] at hi
    have l1 := h1.length
    have l2 := h2.length
    have l3 := h3.length
    exact ⟨vs, ws, us, _, _, _, Same.seqT sm ha, Same.seqT sm hb, Same.seqT sm hc, List.getElem?_eq_getElem (by omega), List.getElem?_eq_getElem (by omega), List.getElem?_eq_getElem (by omega)⟩
  stops := fun H sm => by
    have l1 := h1.length
    have l2 := h2.length
    have l3 := h3.length
    refine ⟨vs, ws, us, Same.seqT sm ha, Same.seqT sm hb, Same.seqT sm hc, ?_, ?_, ?_, ?_⟩ <;> rw [zip3_len] <;> omega
  yields := fun i H x H' hi sm hy => by
    obtain ⟨T, v, w, u, rfl, hT, rfl, q1, q2, q3⟩ := hy
    have e1 := q1 vs (Same.seqT sm ha)
    have e2 := q2 ws (Same.seqT sm hb)
    have e3 := q3 us (Same.seqT sm hc)
    obtain ⟨d, g1, k1⟩ := h1.get' e1
    obtain ⟨e, g2, k2⟩ := h2.get' e2
    obtain ⟨f, g3, k3⟩ := h3.get' e3
    have g := zip3_get g1 g2 g3
    exact ⟨_, g, .inr ⟨T, [v, w, u], [d, e, f], rfl, hT, rfl, .cons k1 (.cons k2 (.cons k3 .nil)), rfl, noPl_at np g⟩⟩
section
variable {X : Cx} {own : Slots} {e : Expr}
theorem pid_zip3 {e2 e3 : Expr} {g : FA} {p pos tpos : Pos} {elts : List Expr} {kk : Nat} (ha : PAD X own [e, e2, e3] g) (hm : X.mg "zip" = none) (hg : Gl X "zip" := by rfl)
    (hs : starEach [e, e2, e3] X.env = (false, eval e X.env) :: starEach [e2, e3] X.env := by rfl) (hpl : (backTo pos (starEach [e2, e3] X.env)).any (·.1) = false := by rfl) : PID X own (.Tuple elts kk tpos) (.Call (.Name "zip" p) [e, e2, e3] [] pos) true (fRng dZip3 g) :=
  ⟨fun A hk hw => (pi_zip3 hg hm (ha.run A hk hw) hs hpl).imp fun σ H R ⟨ρ, s, ds, s', R0, hf, q⟩ => by
    obtain ⟨es, h1, h2⟩ := fRng_some hf
    refine ⟨ρ, s, es, s', R0, h1, fun vs H1 R1 k1 t1 => ?_⟩
    unfold dZip3 at h2
    split at h2
    · split at h2
      case isFalse => cases h2
      rename_i np
      cases h2
      cases t1 with
      | cons t1 t2 => cases t2 with
        | cons t2 t3 => cases t3 with
          | cons t3 t4 =>
            cases t4
            cases t1 with
            | tup ha1 d1 => cases t2 with
              | tup ha2 d2 => cases t3 with
                | tup ha3 d3 =>
                  refine ⟨_, _, _, _, _, _, rfl, hk.1 ▸ seqT_fre ha1, hk.1 ▸ seqT_fre ha2, hk.1 ▸ seqT_fre ha3, ?_⟩
                  rw [← hk.1]
                  exact q _ (fre A σ H1) H1 R1 k1 fre_same (fun b o h z => (fre_no h).2 (R1.mvEx z)) (fun _ b o h => (fre_no h).1) (walkZ3 d1 d2 d3 ha1 ha2 ha3 np)
    · cases h2⟩
end
end DL
/-! tuple * int, the number 1 too (the same object). -/
namespace GX
open PySem PySem.Spec PyProof.Rows L2
theorem tuple_mul1 (l : Addr) (items : Array Value) (n : Nat) (dd : Option Addr) (sl : Array (Option Value)) (u : Tok) :
    Meets (Builtin.«tuple.__mul__» ⟨[.ref l, .int 1 u], []⟩) (fun _ R s => s.heap.get? l = some { cls := .type "tuple", dict := dd, data := .seq items n, slots := sl } ∧
      R (.ok (.ret (Value.ref l))) s) :=
  .of_wp fun prog w A R s h => by
    obtain ⟨hp, g, d, tk, os⟩ := s
    obtain ⟨hl, h⟩ := h
    have f1 := AutoSeq1.idx_int
    wp_walk using wpAny_loadPart' hl
    exact ⟨_, rfl, h⟩
def rRep1 (K : PySem.W.Frag) : R2 := fun x y H Q => ∃ l xs, x = .ref l ∧ y = .int 1 ∧ SqT K H l xs ∧ Q (.ref l) H
section
variable {X : Cx}
theorem op_rep1 : OpR X (binaryOp .Mult) (rRep1 X.K) := by
  intro pins s σ H x y v u Q I rx ry h
  obtain ⟨l, xs, rfl, rfl, hT, q⟩ := h
  cases rx
  obtain ⟨t, rfl⟩ := ry
  obtain ⟨its, r, ⟨⟨cls, dd, data, sl⟩, ho, hc, n, hd⟩, hs⟩ := I.tuple hT
  simp only at hc hd
  subst hc hd
  refine wpAny_binaryOp_repeat_ref (T := "tuple") (U := "int") (by decide) ⟨_, ho, rfl⟩ (fun s' => typeIs_int s' 1 t) noFill_tuple_mul F.fills_int_mul F.slot_int_rmul repeat_tuple F.slot_int_index.lookup
    (call_meets F.slot_int_rmul (typeIs_int s 1 t) F.entry_int_rmul (F.args_int_rmul_2 _ _) (int_rmul_tuple 1 t l its.toArray n dd sl)
      ⟨ho, rfl, ⟨_, ho, rfl⟩, call_meets F.slot_tuple_mul ⟨_, ho, rfl⟩ F.entry_tuple_mul (F.args_tuple_mul_2 _ _) (tuple_mul1 l its.toArray n dd sl t) ⟨ho, ?_⟩⟩)
  exact ⟨.ref l, _, I, rfl, q⟩
end
end GX
namespace DL
open PySem PySem.Spec PyProof.Rows L2 GX
/-- tuple * int -/
def dMulT : D → D → Option D
  | .tuple xs, .int k => if k = 1 then some (.tuple xs) else if 2 ≤ k ∧ k ≤ 1000 ∧ xs ≠ [] ∧ xs.length ≤ 1000 ∧ pl (List.replicate k.toNat xs).flatten = false then some (.tuple (List.replicate k.toNat xs).flatten) else none
  | _, _ => none
section
variable {X : Cx}
theorem op_mulT : OpR X (binaryOp .Mult) (fun x y H Q => rRep1 X.K x y H Q ∨ rRepT X.K x y H Q) := op_rep1.or op_repT
theorem bn_mulT : BinR X (fun x y H Q => rRep1 X.K x y H Q ∨ rRepT X.K x y H Q) dMulT := fun A ρ s σ H v w d e z Q hk R t1 t2 hz q => by
  unfold dMulT at hz
  split at hz
  · rename_i xs k
    obtain ⟨a, vs, rfl, ha, da⟩ := t1.tuple
    have := t2.int
    subst this
    split at hz
    · rename_i h1
      subst h1
      cases hz
      exact .inl ⟨a, vs, rfl, rfl, hk.1 ▸ seqT_fre ha, q _ H (Same.refl H) t1⟩
    · split at hz
      · rename_i hl
        cases hz
        refine .inr ⟨a, k, vs, rfl, rfl, hk.1 ▸ seqT_fre ha, fun e => ?_, hl.1, hl.2.1, by rw [da.length]; exact hl.2.2.2.1, fun p hp => q _ _ (same_upd hp) (den_tup R hp (den_rep da _) hl.2.2.2.2)⟩
        subst e
        cases da
        exact hl.2.2.1 rfl
      · cases hz
  · cases hz
end
end DL
/-! dicts whose keys are ints. -/
namespace DL
open PySem PySem.Spec PyProof.Rows L2 GX
def isI (i : Int) : D → Bool
  | .int j => decide (j = i)
  | _ => false
def getI (r : KV) (i : Int) : Option D := (r.find? fun e => isI i e.1).map (·.2)
def putI (r : KV) (i : Int) (v : D) : KV := if (getI r i).isSome = true then r.map (fun e => if isI i e.1 = true then (e.1, v) else e) else r ++ [(.int i, v)]
theorem isI_key (i : Int) (k : L2.Key) : isI i (keyD k) = decide (k = .inl i) := by
  cases k with
  | inl j => simp [keyD, isI]
  | inr x => simp [keyD, isI]
section
variable {K : PySem.W.Frag} {F : Hp}
inductive KD (K : PySem.W.Frag) (F : Hp) : List (L2.Key × V) → KV → Prop
  | nil : KD K F [] []
  | cons {e l v r} : Den K F e.2 v → KD K F l r → KD K F (e :: l) ((keyD e.1, v) :: r)
theorem KD.of : ∀ {l : List (L2.Key × V)} {r : KV}, r.map (·.1) = l.map (fun e => keyD e.1) → DenAll K F (l.map (·.2)) (r.map (·.2)) → KD K F l r
  | [], [], _, _ => .nil
  | [], _ :: _, h, _ => by cases h
  | _ :: _, [], h, _ => by cases h
  | e :: l, (a, b) :: r, h, q => by
    rw [List.map_cons, List.map_cons] at h q
    injection h with h1 h2
    have h1 : a = keyD e.1 := h1
    subst h1
    cases q with
    | cons q1 q2 => exact .cons q1 (KD.of h2 q2)
theorem KD.keys {l : List (L2.Key × V)} {r : KV} (h : KD K F l r) : r.map (·.1) = l.map (fun e => keyD e.1) := by
  induction h with
  | nil => rfl
  | cons _ _ ih => rw [List.map_cons, List.map_cons, ih]
theorem KD.vals {l : List (L2.Key × V)} {r : KV} (h : KD K F l r) : DenAll K F (l.map (·.2)) (r.map (·.2)) := by
  induction h with
  | nil => exact .nil
  | cons h _ ih => exact .cons h ih
theorem KD.mono {F' : Hp} (s : Same F F') {l : List (L2.Key × V)} {r : KV} (h : KD K F l r) : KD K F' l r := by
  induction h with
  | nil => exact .nil
  | cons h _ ih => exact .cons (h.mono s) ih
theorem KD.length {l : List (L2.Key × V)} {r : KV} (h : KD K F l r) : l.length = r.length := by
  induction h with
  | nil => rfl
  | cons _ _ ih => rw [List.length_cons, List.length_cons, ih]
theorem KD.get {l : List (L2.Key × V)} {r : KV} (h : KD K F l r) (i : Int) : (getI r i = none ∧ valV l (.inl i) = none) ∨ ∃ d v, getI r i = some d ∧ valV l (.inl i) = some v ∧ Den K F v d := by
  induction h with
  | nil => exact .inl ⟨rfl, rfl⟩
  | @cons e l v r hd t ih =>
    by_cases q : e.1 = .inl i
    · right
      refine ⟨v, e.2, ?_, by rw [valV_pos q], hd⟩
      unfold getI
      rw [List.find?_cons, isI_key]
      simp [q]
    · have e1 : getI ((keyD e.1, v) :: r) i = getI r i := by
        unfold getI
        rw [List.find?_cons, isI_key]
        simp [q]
      rw [e1, valV_neg q]
      exact ih
theorem KD.has {l : List (L2.Key × V)} {r : KV} (h : KD K F l r) (i : Int) : (l.any fun kv => decide (kv.1 = .inl i)) = (getI r i).isSome := by
  rw [valV_any]
  rcases h.get i with ⟨h1, h2⟩ | ⟨d, v, h1, h2, _⟩
  · rw [h1, h2]; rfl
  · rw [h1, h2]; rfl
theorem KD.put {l : List (L2.Key × V)} {r : KV} (h : KD K F l r) (i : Int) {v : V} {d : D} (hd : Den K F v d) : KD K F (putK l (.inl i) v) (putI r i d) := by
  unfold putK putI
  rw [h.has i]
  split
  · rename_i hh
    clear hh
    induction h with
    | nil => exact .nil
    | @cons e l w r he t ih =>
      rw [List.map_cons, List.map_cons]
      show KD K F ((if e.1 = .inl i then (e.1, v) else e) :: _) ((if isI i (keyD e.1) = true then (keyD e.1, d) else (keyD e.1, w)) :: _)
      rw [isI_key]
      by_cases q : e.1 = .inl i
      · rw [if_pos q, if_pos (by rw [q]; simp)]
        exact .cons (e := (e.1, v)) hd ih
      · rw [if_neg q, if_neg (by simp [q])]
        exact .cons he ih
  · have app : ∀ {m : List (L2.Key × V)} {q : KV}, KD K F m q → KD K F (m ++ [(.inl i, v)]) (q ++ [(.int i, d)]) := fun {m q} z => by
      induction z with
      | nil => exact .cons (e := (.inl i, v)) hd .nil
      | cons z1 _ ih => exact .cons z1 ih
    exact app h
end
theorem putK_nodup {l : List (L2.Key × V)} {k : L2.Key} {v : V} (h : (l.map (·.1)).Nodup) : ((putK l k v).map (·.1)).Nodup := by
  unfold putK
  split
  · have e : (l.map (fun e => if e.1 = k then (e.1, v) else e)).map (·.1) = l.map (·.1) := by
      rw [List.map_map]
      apply List.map_congr_left
      intro a _
      show (if a.1 = k then (a.1, v) else a).1 = a.1
      split <;> rfl
    rw [e]; exact h
  · rename_i hh
    rw [List.map_append, List.nodup_append]
    refine ⟨h, by simp, fun a ha c hc e => ?_⟩
    rw [show ([(k, v)] : List (L2.Key × V)).map (·.1) = [k] from rfl, List.mem_singleton] at hc
    subst e hc
    apply hh
    obtain ⟨x, hx, e⟩ := List.mem_map.mp ha
    rw [List.any_eq_true]
    exact ⟨x, hx, decide_eq_true e⟩
section
variable {X : Cx} {A : Act} {ρ : Env} {s : Src} {σ : L2.St} {H : Hp}
theorem Top.dictK {v : V} {r : KV} (t : Top A σ H v (.dict ((.none, .none) :: r))) : ∃ a l, v = .ref a ∧ H a = some (.dK l) ∧ KD A.K (fre A σ H) l r ∧ (l.map (·.1)).Nodup ∧ ¬ A.ex a := by
  obtain ⟨a, o, rfl, nx, h1, h2⟩ := (show ∃ a o, v = .ref a ∧ ¬ A.ex a ∧ H a = some o ∧ HasO A.K A.w (fre A σ H) a o (.dict ((.none, .none) :: r)) from t)
  rcases h2 with ⟨l, r', e0, rfl, e1, e2, e3⟩ | ⟨l, rfl, e1, e2, _, e5⟩
  · cases e0
    exact ⟨a, l, rfl, h1, .of e1 e2, e3, nx⟩
  · cases l with
    | nil => cases e1
    | cons x l =>
      rw [List.map_cons, List.map_cons] at e1
      injection e1 with e1 _
      cases e1
variable {own : Slots} {e o ie : Expr} {f fa fb fc : FE} {x0 : Str} {p0 apos cpos pos tpos : Pos}
/-- d.get(i, x), i an int -/
def fGetK (fa fb fc : FE) : FE := fun ρ s => (fa ρ s).bind fun x => (fb ρ x.2).bind fun y => (fc ρ y.2).bind fun z => match x.1, y.1 with
  | .dict ((.none, .none) :: r), .int i => some ((getI r i).getD z.1, z.2)
  | _, _ => none
theorem pd_kget2 (hu : X.A.units + 1 < cLine) (ha : PB X own o fa) (hb : PD X own ie fb) (hc : PD X own e fc) (m : M2 X o "get" apos ie e cpos := by exact ⟨rfl, rfl, rfl, rfl⟩) : PD X own (.Call (.Attribute o "get" apos) [ie, e] [] cpos) (fGetK fa fb fc) :=
  ⟨fun A hk hw => (pe_dget2 hu (ha.run A hk hw) (hb.run A hk hw) (hc.run A hk hw) m).imp fun σ H Q ⟨ρ, s, d, s', R, hf, q⟩ => by
    unfold fGetK at hf
    cases h1 : fa ρ s with
    | none => rw [h1] at hf; cases hf
    | some x =>
      obtain ⟨d1, s1⟩ := x
      rw [h1, Option.bind_some] at hf
      cases h2 : fb ρ s1 with
      | none => simp only [h2] at hf; cases hf
      | some y =>
        obtain ⟨d2, s2⟩ := y
        simp only [h2, Option.bind_some] at hf
        cases h3 : fc ρ s2 with
        | none => simp only [h3] at hf; cases hf
        | some z =>
          obtain ⟨d3, s3⟩ := z
          simp only [h3, Option.bind_some] at hf
          split at hf
          · rename_i r i
            cases hf
            refine ⟨ρ, s, _, s1, R, h1, fun u H1 R1 k1 t1 => ?_⟩
            obtain ⟨a, l, rfl, hx, xd, _, nx⟩ := Top.dictK t1
            refine ⟨a, rfl, .inl ⟨l, .inl hx⟩, ρ, s1, _, s2, R1, h2, fun v2 H2 R2 k2 t2 => ⟨ρ, s2, d3, s', R2, h3, fun v3 H3 R3 k3 t3 => ?_⟩⟩
            obtain ⟨a', l', e', hx', xd', _, _⟩ := Top.dictK (t1.keep R1 (k2.trans k3))
            cases e'
            have t2' := (Top.of t2).int
            subst t2'
            refine ⟨_, DGet.k (k := .inl i) hx', q _ H3 R3 ((k1.trans k2).trans k3) ?_⟩
            rcases xd'.get i with ⟨h5, h6⟩ | ⟨d', w, h5, h6, h7⟩
            · rw [h5, h6]; exact t3
            · rw [h5, h6]; exact h7
          · cases hf⟩
/-- d[i] = e, i an int -/
def fPutK (i : Nat) (fi fe : FE) : FS := fun ρ s => (fe ρ s).bind fun x => (fi ρ x.2).bind fun y => match ρ.getD i none, y.1 with
  | some (.dict ((.none, .none) :: r)), .int k => if r.length < 1000000 then some (.nx, ρ.set i (some (.dict ((.none, .none) :: putI r k x.1))), y.2) else none
  | _, _ => none
theorem sd_kput (hu : X.A.units + 1 < cLine) (i : Nat) (he : PD X own e f) (hie : PD X own ie fa) (hi : own.own.contains i = true := by rfl) (hN : X.N[i]? = some x0 := by rfl) (hv : Vis X.env.scope x0 := by first | exact Or.inl rfl | exact Or.inr (Or.inl rfl) | exact Or.inr (Or.inr rfl)) (hd : (x0 == ("__debug__" : Str)) = false := by decide) (hcd : (x0 == ("__classdict__" : Str)) = false := by decide)
    (hs : swapsWith e (some (.Subscript (.Name x0 p0) ie tpos)) pos.line X.env = pure false := by rfl) : SD X own (.Assign [.Subscript (.Name x0 p0) ie tpos] e pos) (fPutK i fa f) :=
  ⟨fun A hK hW => (ps_dput hu (pe_var hN hv hd hcd) (hie.run A hK hW) (he.run A hK hW) hs).imp fun E σ H ⟨ρ, s, fl, ρ', s', R, hf, q⟩ => by
    unfold fPutK at hf
    cases h1 : f ρ s with
    | none => rw [h1] at hf; cases hf
    | some x =>
      obtain ⟨d, s1⟩ := x
      rw [h1, Option.bind_some] at hf
      cases h2 : fa ρ s1 with
      | none => simp only [h2] at hf; cases hf
      | some y =>
        obtain ⟨kd, s2⟩ := y
        simp only [h2, Option.bind_some] at hf
        split at hf
        case h_2 => cases hf
        rename_i r k h3
        split at hf
        case isFalse => cases hf
        rename_i hl
        cases hf
        have hio := hW.isown hi
        refine ⟨ρ, s, d, s1, R, h1, fun v H1 R1 k1 d1 => ?_⟩
        obtain ⟨p, o, e1, e2, e3⟩ := R1.ownv i _ (getD_some h3) hio
        refine ⟨.ref p, e1, ρ, s1, _, s', R1, h2, fun u H2 R2 k2 d2 => ?_⟩
        obtain ⟨p', o', e1', e2', e3'⟩ := R2.ownv i _ (getD_some h3) hio
        rw [e1] at e1'
        cases e1'
        have hp := R2.root i p hio e1
        obtain ⟨a, l, ea, hx, xd, nd, _⟩ := Top.dictK (A := A) (σ := σ) (H := H2) (v := .ref p) (r := r) ⟨p, o', rfl, hp.2.1, e2', e3'⟩
        cases ea
        have t2' := (Top.of d2).int
        subst t2'
        have xd2 := xd.put k (d1.mono (R1.sm k2))
        have hlen : l.length < sizeLine := by rw [xd.length]; exact Nat.lt_of_lt_of_le hl (by decide)
        refine ⟨p, _, rfl, DPut.k (k := .inl k) hx hlen, ?_⟩
        obtain ⟨R3, F3⟩ := R2.change (d := .dict ((.none, .none) :: putI r k d)) hio e1 (o := .dK (putK l (.inl k) v)) (.inl ⟨_, _, rfl, rfl, xd2.keys, xd2.vals, putK_nodup nd⟩)
        exact q σ _ R3 ((k1.trans k2).fr.trans F3)⟩
end
end DL
/-! for k, v in d.items(), d a dict of the def's own with int keys that the body leaves alone. -/
namespace DL
open PySem PySem.Spec PyProof.Rows L2 GX
section
variable {K : PySem.W.Frag} {C : Hp} {d : Addr} {o : Obj}
theorem KD.at {l : List (L2.Key × V)} {r : KV} (h : KD K C l r) : ∀ {i : Nat} {k : L2.Key} {v : V}, l[i]? = some (k, v) → ∃ e, r[i]? = some (keyD k, e) ∧ Den K C v e := by
  induction h with
  | nil => intro i k v z; simp at z
  | @cons e l w r he t ih =>
    intro i k v z
    cases i with
    | zero => simp at z; subst z; exact ⟨w, rfl, he⟩
    | succ i => exact ih (i := i) (by simpa using z)
def pairsI (r : KV) : List D := r.map fun e => .tuple [e.1, e.2]
theorem pl_key (k : L2.Key) (e : D) : pl [keyD k, e] = false := by
  cases k with
  | inl j => rfl
  | inr x => rfl
theorem walkI {l : List (L2.Key × V)} {r : KV} (h : KD K C l r) : WalkD K (onlyAt d (.frz o (.dK l))) C (Iti d o l) (pairsI r) where
  goes := fun i H hi sm => ⟨sm d _ (by unfold onlyAt; rw [if_pos rfl]), by rw [h.length]; unfold pairsI at hi; rw [List.length_map] at hi; exact hi⟩
  stops := fun H sm => ⟨sm d _ (by unfold onlyAt; rw [if_pos rfl]), by rw [h.length]; unfold pairsI; rw [List.length_map]; exact Nat.le_refl _⟩
  yields := fun i H x H' hi sm y => by
    obtain ⟨T, k, v, h1, h2, h3, h4⟩ := y
    obtain ⟨e, e1, e2⟩ := h.at h1
    refine ⟨.tuple [keyD k, e], by unfold pairsI; rw [List.getElem?_map, e1]; rfl, .inr ⟨T, [kV k, v], [keyD k, e], h2, h3, h4, .cons (by cases k <;> first | exact .int _ | exact .str _) (.cons e2 .nil), rfl, pl_key k e⟩⟩
end
section
variable {A : Act} {ρ : Env} {s : Src} {σ : L2.St} {H : Hp} {i : Nat} {d : Addr} {o u : HO}
theorem swap_fre : Same (fre (A.hide i d o) σ H) (fre (A.hide i d u) σ (upd H d u)) := fun a v h => by
  obtain ⟨n1, n2⟩ := fre_no h
  have nd : a ≠ d := fun e => n2 (.inr e)
  exact fre_of (by rw [upd_ne nd]; exact fre_same a v h) n1 n2
theorem Rel.swapO (R : Rel (A.hide i d o) ρ s σ H) (nm : ¬ A.mv d) : Rel (A.hide i d u) ρ s σ (upd H d u) := by
  have sm : Same (fre (A.hide i d o) σ H) (fre (A.hide i d u) σ (upd H d u)) := swap_fre
  have h0 : ∀ {a}, a ≠ d → (A.hide i d u).H0 a = (A.hide i d o).H0 a := fun e => by
    show upd A.H0 d u _ = upd A.H0 d o _
    rw [upd_ne e, upd_ne e]
  refine ⟨R.len, R.nl, fun a v h n => ?_, fun p h => ?_, fun a h => ?_, R.fix, fun j e h n => ?_, fun j e h n => ?_, fun j p n h => ?_, R.inj, fun p h => ?_⟩
  · by_cases e : a = d
    · subst e
      have h : upd A.H0 a u a = some v := h
      rw [upd_same] at h
      rw [upd_same]; exact h
    · rw [h0 e] at h
      rw [upd_ne e]; exact R.keep a v h n
  · have ne : p ≠ d := fun e => nm (by rw [← e]; exact .inl h)
    obtain ⟨a1, a2, a3⟩ := R.src p h
    exact ⟨by rw [upd_ne ne]; exact a1, by rw [h0 ne]; exact a2, a3⟩
  · by_cases e : a = d
    · subst e; exact ⟨_, upd_same⟩
    · obtain ⟨v, q⟩ := R.exin a h
      exact ⟨v, by rw [upd_ne e]; exact q⟩
  · obtain ⟨v, h1, h2⟩ := R.val j e h n
    exact ⟨v, h1, h2.mono sm⟩
  · obtain ⟨p, v, h1, h2, h3⟩ := R.ownv j e h n
    have ne : p ≠ d := fun z => (R.root j p n h1).2.1 (.inr z)
    exact ⟨p, v, h1, by rw [upd_ne ne]; exact h2, h3.mono sm⟩
  · obtain ⟨a1, a2, v, a3⟩ := R.root j p n h
    have ne : p ≠ d := fun z => a2 (.inr z)
    exact ⟨by rw [h0 ne]; exact a1, a2, v, by rw [upd_ne ne]; exact a3⟩
  · have ne : p ≠ d := fun e => nm (by rw [← e]; exact .inr h)
    obtain ⟨t, u1, u2⟩ := R.tabs p h
    exact ⟨t.keep fun v e => by rw [upd_ne ne]; exact e, by rw [h0 ne]; exact u1, u2⟩
end
def fForI (i : Nat) (set : D → Env → Option Env) (body : FS) : FS := fun ρ s => match ρ.getD i none with
  | some (.dict ((.none, .none) :: r)) => (fLoop set body (pairsI r) (ρ.set i none) s).map fun y => (y.1, y.2.1.set i (some (.dict ((.none, .none) :: r))), y.2.2)
  | _ => none
theorem _root_.L2.PS.impL {X : Cx} {st : Stmt} {t t' : TS} (h : PS X st t) (q : ∀ E σ H, t' E σ H → t E σ H) : PS X st t' := h.imp q
section
variable {X : Cx} {own : Slots} {elts : List Expr} {kk : Nat} {tpos apos cpos : Pos} {body : List Stmt} {js : List Nat} {set : D → Env → Option Env} {fb : FS} {pos px : Pos} {x0 : Str}
theorem sd_forIt (i : Nat) (hg : PGD X (own.hide i) (.Tuple elts kk tpos) js set) (hb : SDs X (own.hide i) body fb) (hi : own.own.contains i = true := by rfl) (hli : i < own.n := by decide) (hN : X.N[i]? = some x0 := by rfl) (hv : Vis X.env.scope x0 := by first | exact Or.inl rfl | exact Or.inr (Or.inl rfl) | exact Or.inr (Or.inr rfl))
    (hd : (x0 == ("__debug__" : Str)) = false := by decide) (hcd : (x0 == ("__classdict__" : Str)) = false := by decide) (hp : PassesOwn (model X.prog X.w) X.A X.env X.xe := by exact PassesOwn.never) (hc : X.calm = true := by rfl)
    (hbase : attributeBase (.Name x0 px) "items" X.env (eval (.Name x0 px) X.env) = eval (.Name x0 px) X.env := by rfl) (hline : (apos.endLine == cpos.line) = true := by rfl)
    (hs : ∀ v, foldedSetIterable (.Call (.Attribute (.Name x0 px) "items" apos) [] [] cpos) X.env v = pure v := by intro _; rfl) : SD X own (.For (.Tuple elts kk tpos) (.Call (.Attribute (.Name x0 px) "items" apos) [] [] cpos) body [] pos) (fForI i set fb) :=
  ⟨fun A hk hw => (ps_lock (ps_for hp hc (pi_items (pe_var hN hv hd hcd) hbase hline) (⟨fun pins s σ H v u Q I r ⟨B, b1, b2, q⟩ => (hg.run B b1 b2).run pins s σ H v u Q I r q⟩ : PG X (.Tuple elts kk tpos) fun v σ H Q => ∃ B : Act, B.At X ∧ B.Of (own.hide i) ∧ tG B js set v σ H Q)
      (⟨fun pins s σ H D I ⟨B, b1, b2, h⟩ => (hb.run B b1 b2).run pins s σ H D I h⟩ : PSs X body fun E σ H => ∃ B : Act, B.At X ∧ B.Of (own.hide i) ∧ tS B fb E σ H) hs)).imp fun E σ H h => by
    obtain ⟨ρ, s, fl, ρ', s', R, hf, q⟩ := of_tS h
    have hiO := hw.isown hi
    unfold fForI at hf
    split at hf
    case h_2 => cases hf
    rename_i r hρi
    cases hlp : fLoop set fb (pairsI r) (ρ.set i none) s with
    | none => rw [hlp] at hf; cases hf
    | some yy =>
    obtain ⟨fl0, ρ0, s0⟩ := yy
    rw [hlp] at hf
    cases hf
    obtain ⟨p, o, g1, g2, g3⟩ := R.ownv i _ (getD_some hρi) hiO
    obtain ⟨r1, r2, _⟩ := R.root i p hiO g1
    obtain ⟨a, l, ea, hx, xd, nd, _⟩ := Top.dictK (A := A) (σ := σ) (H := H) (v := .ref p) (r := r) ⟨p, o, rfl, r2, g2, g3⟩
    cases ea
    have nm : ¬ A.mv p := fun z => r2 (R.mvEx z)
    have hil : i < ρ.length := by rw [R.nl, hw.n]; exact hli
    refine ⟨p, .dK l, hx, trivial, fun od => ?_⟩
    have Rb := R.hideG hiO g1 hil (.frz od (.dK l))
    generalize hHb : upd H p (.frz od (.dK l)) = Hb at Rb ⊢
    have hHbp : Hb p = some (.frz od (.dK l)) := by rw [← hHb]; exact upd_same
    have hHbn : ∀ {a}, a ≠ p → Hb a = H a := fun ne => by rw [← hHb]; exact upd_ne ne
    generalize hB : A.hide i p (.frz od (.dK l)) = B at Rb
    have B1 : B.At X := by rw [← hB]; exact hk
    have B2 : B.Of (own.hide i) := by rw [← hB]; exact Act.hide_of hw
    have BK : B.K = A.K := by rw [← hB]; rfl
    have Bmv : ∀ a, B.mv a ↔ A.mv a := fun a => by rw [← hB]; exact Iff.rfl
    have rootB : ∀ {σ' : L2.St} {a : Addr}, IsRoot B σ' a → IsRoot A σ' a := fun {σ' a} ⟨k, c1, c2⟩ => by
      rw [← hB] at c1
      exact ⟨k, (hide_own.mp c1).1, c2⟩
    have xdB : KD B.K (fre B σ Hb) l r := by
      rw [BK]
      refine xd.mono fun a u ha => ?_
      obtain ⟨n1, n2⟩ := fre_no ha
      have np : a ≠ p := fun e => n1 ⟨i, hiO, by rw [e]; exact g1⟩
      refine fre_of (by rw [hHbn np]; exact fre_same a u ha) (fun z => n1 (rootB z)) fun z => ?_
      rw [← hB] at z
      exact z.elim n2 np
    -- all ends, back in the def's own slots
    have fin : ∀ {σ' : L2.St} {H' : Hp}, Rel B ρ0 s0 σ' H' → Fr B σ Hb σ' H' → H' p = some (.frz od (.dK l)) ∧ Rel A (ρ0.set i (some (.dict ((.none, .none) :: r)))) s0 σ' (upd H' p (.dK l)) ∧ Fr A σ H σ' (upd H' p (.dK l)) := fun {σ' H'} R' F' => by
      have FA : ∀ a u, H a = some u → ¬ IsRoot A σ a → ¬ A.mv a → H' a = some u ∧ ¬ IsRoot B σ' a := fun a u ha na nma => by
        have np : a ≠ p := fun e => na ⟨i, hiO, by rw [e]; exact g1⟩
        exact F' a u (by rw [hHbn np]; exact ha) (fun z => na (rootB z)) fun z => nma ((Bmv a).mp z)
      have hd' : σ'[i]? = some (some (.ref p)) := by
        rw [← hB] at R'
        exact (R'.fix (i, .ref p) List.mem_cons_self).1
      have nroot : ∀ a, a ≠ p → ¬ IsRoot B σ' a → ¬ IsRoot A σ' a := fun a ne nb z => by
        rw [← hB] at nb
        exact ((hide_root (u := .frz od (.dK l)) hiO hd').mp z).elim nb ne
      have hp' : H' p = some (.frz od (.dK l)) := by
        rw [← hB] at R'
        exact R'.keep p _ upd_same nm
      have frA : ∀ a u, H a = some u → ¬ IsRoot A σ a → ¬ A.mv a → upd H' p (.dK l) a = some u ∧ ¬ IsRoot A σ' a := fun a u ha na nma => by
        obtain ⟨z1, z2⟩ := FA a u ha na nma
        have np : a ≠ p := fun e => na ⟨i, hiO, by rw [e]; exact g1⟩
        exact ⟨by rw [upd_ne np]; exact z1, nroot a np z2⟩
      have ho : HasO A.K A.w (fre A σ' (upd H' p (.dK l))) p (.dK l) (.dict ((.none, .none) :: r)) := by
        have xd2 : KD A.K (fre A σ' (upd H' p (.dK l))) l r := xd.mono fun a u ha => by
          obtain ⟨n1, n2⟩ := fre_no ha
          obtain ⟨z1, z2⟩ := frA a u (fre_same a u ha) n1 fun z => n2 (R.mvEx z)
          exact fre_of z1 z2 n2
        exact .inl ⟨l, r, rfl, rfl, xd2.keys, xd2.vals, nd⟩
      rw [← hB] at R'
      have hl0 : i < ρ0.length := by rw [R'.nl]; show i < A.n; rw [hw.n]; exact hli
      have R2 : Rel (A.hide i p (.dK l)) ρ0 s0 σ' (upd H' p (.dK l)) := R'.swapO nm
      exact ⟨hp', (R2.showG hiO r1 r2 nm (fun q hq => (R.fix q hq).2.1) hl0 (fun q hq => (R.src q hq).2) (fun q hq => (R.tabs q hq).2) ho).1, frA⟩
    have barB : ∀ {H' : Hp}, Same (bar B H') (bar A (upd H' p (.dK l))) := fun {H'} a u ha => by
      unfold bar at ha
      split at ha
      · cases ha
      · rename_i nx
        have np : a ≠ p := fun e => nx (by rw [← hB]; exact .inr e)
        exact bar_of (by rw [upd_ne np]; exact ha) fun z => nx (by rw [← hB]; exact .inl z)
    have wk := walkI (d := p) (o := od) xdB
    have notF : ∀ a u, onlyAt p (.frz od (.dK l)) a = some u → ¬ B.mv a ∧ ¬ IsRoot B σ a := fun a u ha => by
      obtain ⟨rfl, _⟩ := onlyAt_some ha
      refine ⟨fun z => nm ((Bmv a).mp z), fun ⟨k, c1, c2⟩ => ?_⟩
      rw [← hB] at c1
      obtain ⟨c3, c4⟩ := hide_own.mp c1
      exact c4 (R.inj k i a c3 hiO c2 g1)
    have smO : Same (onlyAt p (.frz od (.dK l))) Hb := fun a u ha => by
      obtain ⟨rfl, rfl⟩ := onlyAt_some ha
      exact hHbp
    rw [BK, hk.1] at wk
    refine ⟨.ref p, g1, p, od, l, rfl, hHbp, ?_⟩
    refine ⟨fun k m σ2 H2 => m = (pairsI r).length - k ∧ k ≤ (pairsI r).length ∧ ∃ ρ2 s2, Rel B ρ2 s2 σ2 H2 ∧ Fr B σ Hb σ2 H2 ∧ fLoop set fb ((pairsI r).drop k) ρ2 s2 = some (fl0, ρ0, s0), ⟨(pairsI r).length, by omega, Nat.zero_le _, _, s, Rb, Fr.refl _ _ _, hlp⟩, ?_⟩
    generalize pairsI r = ds at *
    rintro k m σ2 H2 ⟨rfl, hk2, ρ2, s2, R2, F2, hl⟩
    have smF : Same (onlyAt p (.frz od (.dK l))) H2 := fun a u ha => (F2 a u (smO a u ha) (notF a u ha).2 (notF a u ha).1).1
    by_cases hlt : k < ds.length
    · refine .inr ⟨wk.goes k H2 hlt smF, ?_⟩
      obtain ⟨di, hdi⟩ : ∃ d, ds[k]? = some d := ⟨ds[k], by simp [hlt]⟩
      have hdrop : ds.drop k = di :: ds.drop (k + 1) := by
        rw [List.drop_eq_getElem_cons hlt]
        have := List.getElem?_eq_getElem hlt
        rw [hdi] at this
        injection this with e
        rw [e]
      rw [hdrop] at hl
      unfold fLoop at hl
      cases h1 : set di ρ2 with
      | none => rw [h1] at hl; cases hl
      | some ρ3 =>
        rw [h1, Option.bind_some] at hl
        cases h2 : fb ρ3 s2 with
        | none => rw [h2] at hl; cases hl
        | some x =>
          obtain ⟨f4, ρ4, s4⟩ := x
          rw [h2, Option.bind_some] at hl
          refine ⟨fun σ' H' => ∃ ρ5 s5, Rel B ρ5 s5 σ' H' ∧ Fr B σ Hb σ' H' ∧ fLoop set fb (ds.drop (k + 1)) ρ5 s5 = some (fl0, ρ0, s0), fun σ' H' ⟨ρ5, s5, R5, F5, l5⟩ => ⟨ds.length - (k + 1), by omega, rfl, hlt, ρ5, s5, R5, F5, l5⟩, fun v H3 hy => ?_⟩
          obtain ⟨d, e1, e2⟩ := wk.yields k H2 v H3 hlt smF hy
          rw [hdi] at e1
          injection e1 with e1
          subst e1
          have C2 : Same (fre B σ Hb) (fre B σ2 H2) := fun a u ha => by
            obtain ⟨n1, n2⟩ := fre_no ha
            have := F2 a u (fre_same a u ha) n1 fun z => n2 (Rb.mvEx z)
            exact fre_of this.1 this.2 n2
          have hv3 : Rel B ρ2 s2 σ2 H3 ∧ Kp B H2 H3 ∧ Den B.K (fre B σ2 H3) v di := by
            rw [BK, hk.1]
            rcases e2 with ⟨rfl, d2⟩ | ⟨T, ws, es, rfl, hT, rfl, d2, rfl, np⟩
            · exact ⟨R2, Kp.refl _ _, d2.mono C2⟩
            · have z := den_tup R2 hT (by rw [BK, hk.1]; exact d2.mono C2) np
              rw [BK, hk.1] at z
              exact ⟨R2.mono (same_upd hT), Kp.of (same_upd hT), z⟩
          obtain ⟨R3, k3, d3⟩ := hv3
          refine ⟨B, B1, B2, ρ2, s2, di, ρ3, R3, d3, h1, fun σ3 R4 _ r4 => ⟨B, B1, B2, ?_⟩⟩
          have F3 : Fr B σ Hb σ3 H3 := F2.trans (k3.fr.trans fun a u ha n z => ⟨ha, fun w => n ((r4 a).mp w)⟩)
          refine tS_of R4 h2 ?_
          cases f4 with
          | nx => exact fun σ' H' R5 F5 => ⟨ρ4, s4, R5, F3.trans F5, hl⟩
          | ct => exact fun σ' H' R5 F5 => ⟨ρ4, s4, R5, F3.trans F5, hl⟩
          | bk =>
            cases hl
            exact fun σ' H' R5 F5 => let z := fin R5 (F3.trans F5); ⟨z.1, q σ' _ z.2.1 z.2.2⟩
          | rt w =>
            cases hl
            exact fun v σ' H' R5 F5 hd => let z := fin R5 (F3.trans F5); ⟨z.1, q v σ' _ z.2.1 z.2.2 (by rw [← BK]; exact hd.mono barB)⟩
    · have ei : k = ds.length := by omega
      subst ei
      rw [List.drop_length] at hl
      cases hl
      have z := fin R2 F2
      exact .inl ⟨wk.stops H2 smF, z.1, q σ2 _ z.2.1 z.2.2⟩⟩
end
end DL
/-! [.. for .. in .. for .. in ..] -/
namespace DL
open PySem PySem.Spec PyProof.Rows L2 GX
/-- like tI; what is walked lies outside what must not be reached -/
def tIN (A : Act) (f : FI) : TI := fun σ H R => ∃ ρ s items s', Rel A ρ s σ H ∧ f ρ s = some (items, s') ∧ ∀ J F H1, Rel A ρ s' σ H1 → Kp A H H1 → Same F H1 → (∀ a o, F a = some o → ¬ A.ex a) → WalkD A.K F (fre A σ H1) J items → R J H1
structure PIN (X : Cx) (own : Slots) (tg iter : Expr) (f : FI) : Prop where
  run : ∀ A : Act, A.At X → A.Of own → PI X tg iter (tIN A f)
section
variable {X : Cx} {own : Slots} {tg e : Expr} {f : FE}
theorem pin_seq (he : PD X own e f) : PIN X own tg e (fSeqI f) :=
  ⟨fun A hk hw => (pi_seq (he.run A hk hw)).imp fun σ H R ⟨ρ, s, ds, s', R0, hf, q⟩ => by
    obtain ⟨d, h1, h2⟩ := fSeqI_some hf
    refine ⟨ρ, s, d, s', R0, h1, fun v H1 R1 k1 d1 => ?_⟩
    unfold itemsD at h2
    split at h2
    · cases h2
      cases d1 with
      | @lst a vs _ ha hds =>
        obtain ⟨n1, n2⟩ := fre_no ha
        refine ⟨a, rfl, .inl ⟨⟨vs, SqL.of (fre_same _ _ ha)⟩, ?_⟩⟩
        rw [← hk.1]
        refine q _ (onlyAt a (.lst vs)) H1 R1 k1 (fun b o h => ?_) (fun b o h => ?_) (walkL hds)
        · obtain ⟨rfl, rfl⟩ := onlyAt_some h; exact fre_same _ _ ha
        · obtain ⟨rfl, rfl⟩ := onlyAt_some h; exact n2
    · cases h2
      cases d1 with
      | @tup a vs _ ha hds =>
        refine ⟨a, rfl, .inr ⟨⟨vs, hk.1 ▸ seqT_fre ha⟩, ?_⟩⟩
        rw [← hk.1]
        exact q _ (fre A σ H1) H1 R1 k1 fre_same (fun b o h => (fre_no h).2) (walkT hds ha)
    · cases h2⟩
theorem pin_range1 {a : Expr} {g : FA} {p pos : Pos} (ha : PAB X own [a] g) (hm : X.mg "range" = none) (hg : Gl X "range" := by rfl) (hs : starEach [a] X.env = [(false, eval a X.env)] := by rfl) : PIN X own tg (.Call (.Name "range" p) [a] [] pos) (fRng dRange1 g) :=
  ⟨fun A hk hw => (pi_range1 hg hm (ha.run A hk hw) hs).imp fun σ H R ⟨ρ, s, ds, s', R0, hf, q⟩ => by
    obtain ⟨es, h1, h2⟩ := fRng_some hf
    refine ⟨ρ, s, es, s', R0, h1, fun vs H1 R1 k1 t1 => ?_⟩
    unfold dRange1 at h2
    split at h2
    · split at h2
      · rename_i n hn
        cases h2
        obtain ⟨v, rfl, t⟩ := t1.one
        have e := t.int; subst e
        exact ⟨n, rfl, hn.1, hn.2, q (Itr 0 n.toNat) noHp H1 R1 k1 (fun _ _ h => by cases h) (fun _ _ h => by cases h) walkR⟩
      · cases h2
    · cases h2⟩
end
section
variable {A B : Act} {ρ ρ' : Env} {s s' : Src} {σ σ' : L2.St} {H H6 : Hp} {d : Addr} {o : HO}
/-- all but what must not be reached stands -/
def Ke (B : Act) (H H' : Hp) : Prop := ∀ a u, H a = some u → ¬ B.ex a → H' a = some u
theorem Ke.refl : Ke B H H := fun _ _ h _ => h
theorem Ke.trans {H' H2 : Hp} (a : Ke B H H') (b : Ke B H' H2) : Ke B H H2 := fun c u h n => b c u (a c u h n) n
theorem Kp.ke {H' : Hp} (R : Rel B ρ s σ H) (k : Kp B H H') : Ke B H H' := fun a u h n => k a u h fun z => n (R.mvEx z)
theorem Ke.same {H' : Hp} (k : Ke B H H') : Same (fre B σ H) (fre B σ H') := fre_mono fun a u h _ n => k a u h n
theorem Rel.backE (R3 : Rel B ρ s σ H) (R6 : Rel B ρ' s' σ' H6) (k : Ke B H H6) : Rel B ρ s' σ H6 where
  len := R3.len
  nl := R3.nl
  keep := R6.keep
  src := R6.src
  exin := R6.exin
  fix := R3.fix
  val := fun j e h n => let ⟨w, q1, q2⟩ := R3.val j e h n; ⟨w, q1, q2.mono k.same⟩
  ownv := fun j e h n => by
    obtain ⟨p, o, q1, q2, q3⟩ := R3.ownv j e h n
    exact ⟨p, o, q1, k p o q2 (R3.root j p n q1).2.1, q3.mono k.same⟩
  root := fun j p n h => by
    obtain ⟨q1, q2, o, q3⟩ := R3.root j p n h
    exact ⟨q1, q2, o, k p o q3 q2⟩
  inj := R3.inj
  tabs := R6.tabs
theorem Rel.appE (R : Rel (A.add [d]) ρ s σ H) (n0 : A.H0 d = none) (ns : ¬ (A.add [d]).mv d) : Rel (A.add [d]) ρ s σ (upd H d o) ∧ Ke (A.add [d]) H (upd H d o) := by
  have exd : (A.add [d]).ex d := .inr (List.mem_singleton.mpr rfl)
  have ke : Ke (A.add [d]) H (upd H d o) := fun a u h n => by
    have ne : a ≠ d := fun e => n (by rw [e]; exact exd)
    rw [upd_ne ne]; exact h
  refine ⟨⟨R.len, R.nl, fun a u h n => ?_, fun p h => ?_, fun a h => ?_, R.fix, fun j e h n => ?_, fun j e h n => ?_, fun j p n h => ?_, R.inj, fun q h => ?_⟩, ke⟩
  · have ne : a ≠ d := fun e => by rw [e, show (A.add [d]).H0 d = none from n0] at h; cases h
    rw [upd_ne ne]; exact R.keep a u h n
  · obtain ⟨q1, q2, q3⟩ := R.src p h
    have ne : p ≠ d := fun e => ns (by rw [← e]; exact .inl h)
    exact ⟨by rw [upd_ne ne]; exact q1, q2, q3⟩
  · by_cases e : a = d
    · exact ⟨_, by rw [e, upd_same]⟩
    · rw [upd_ne e]; exact R.exin a h
  · obtain ⟨w, q1, q2⟩ := R.val j e h n
    exact ⟨w, q1, q2.mono ke.same⟩
  · obtain ⟨p, u, q1, q2, q3⟩ := R.ownv j e h n
    exact ⟨p, u, q1, ke p u q2 (R.root j p n q1).2.1, q3.mono ke.same⟩
  · obtain ⟨q1, q2, u, q3⟩ := R.root j p n h
    exact ⟨q1, q2, u, ke p u q3 q2⟩
  · obtain ⟨t, u1, u2⟩ := R.tabs q h
    have ne : q ≠ d := fun e => u1 (by rw [e]; exact n0)
    exact ⟨t.keep fun o e => by rw [upd_ne ne]; exact e, u1, u2⟩
end
def lc2Loop (set : D → Env → Option Env) (t : FT) (fi1 : FI) (set1 : D → Env → Option Env) (t1 : FT) (fe : FE) (vs1 : List Nat) (ρ : Env) : List D → Src → Option (List D × Src)
  | [], s => some ([], s)
  | d :: r, s => (set d ρ).bind fun ρ1 => (t ρ1 s).bind fun x => if x.1 = true then (fi1 ρ1 x.2).bind fun y => (lcLoop set1 t1 fe (wipeE ρ1 vs1) y.1 y.2).bind fun z => (lc2Loop set t fi1 set1 t1 fe vs1 ρ r z.2).map fun u => (z.1 ++ u.1, u.2) else lc2Loop set t fi1 set1 t1 fe vs1 ρ r x.2
def fLc2 (fi : FI) (set : D → Env → Option Env) (t : FT) (fi1 : FI) (set1 : D → Env → Option Env) (t1 : FT) (fe : FE) (vs vs1 : List Nat) : FE := fun ρ s => (fi ρ s).bind fun x => (lc2Loop set t fi1 set1 t1 fe vs1 (wipeE ρ vs) x.1 x.2).bind fun y => if y.1.length ≤ 1000000 then some (.list y.1, y.2) else none
def cvOk2 (W : Slots) (vs js vs1 js1 : List Nat) : Bool := cvOk W vs js && (vs1.all fun j => vs.contains j) && js1.all fun j => vs1.contains j
section
variable {X : Cx} {own : Slots} {tg iter elt tg1 iter1 : Expr} {ifs ifs1 : List Expr} {js js1 vs1 : List Nat} {fi fi1 : FI} {set set1 : D → Env → Option Env} {fe : FE} {t t1 : FT} {pos : Pos} {scope : Scope} {cv : List (Str × Nat)} {b : Bool}
theorem lc2_imp (A : Act) (hk : A.At X) (hw : A.Of own) (hv : cvOk2 own (cv.map (·.2)) js vs1 js1 = true) (σ : L2.St) (H : Hp) (Q : VK) (h : tF A (fLc2 fi set t fi1 set1 t1 fe (cv.map (·.2)) vs1) σ H Q) :
    tLc2 (tI A b fi) (fun v σ H Q => ∃ B : Act, B.At X ∧ B.Of own ∧ tG B js set v σ H Q) (fun σ H Q => ∃ B : Act, B.At X ∧ B.Of own ∧ tT B t σ H Q) (fun σ H R => ∃ B : Act, B.At X ∧ B.Of own ∧ tIN B fi1 σ H R)
      (fun v σ H Q => ∃ B : Act, B.At X ∧ B.Of own ∧ tG B js1 set1 v σ H Q) (fun σ H Q => ∃ B : Act, B.At X ∧ B.Of own ∧ tT B t1 σ H Q) (fun σ H Q => ∃ B : Act, B.At X ∧ B.Of own ∧ tE B fe σ H Q) (cv.map (·.2)) vs1 σ H Q := by
  obtain ⟨ρ, s, d, s', R, hf, q⟩ := h
  unfold fLc2 at hf
  cases h0 : fi ρ s with
  | none => rw [h0] at hf; cases hf
  | some y =>
    obtain ⟨items, s1⟩ := y
    rw [h0, Option.bind_some] at hf
    cases h00 : lc2Loop set t fi1 set1 t1 fe vs1 (wipeE ρ (cv.map (·.2))) items s1 with
    | none => simp only [h00] at hf; cases hf
    | some yy =>
    obtain ⟨es, s9⟩ := yy
    simp only [h00, Option.bind_some] at hf
    split at hf
    case isFalse => cases hf
    rename_i hsz
    cases hf
    refine ⟨ρ, s, items, s1, R, h0, fun J F H1 R1 k1 sm nx nr W D hD => ?_⟩
    obtain ⟨nD1, nD2, nD3⟩ := R1.new hD
    unfold cvOk2 at hv
    simp only [Bool.and_eq_true] at hv
    obtain ⟨⟨hv1, hv2⟩, hv3⟩ := hv
    have vs_ok : ∀ v ∈ cv.map (·.2), v ∉ A.own ∧ v ∉ A.fix.map (·.1) := fun v h => by
      unfold cvOk at hv1
      simp only [Bool.and_eq_true, List.all_eq_true, Bool.not_eq_true'] at hv1
      exact ⟨hw.nown (hv1.1 v h).1, hw.nfix (hv1.1 v h).2⟩
    have js_ok : ∀ j ∈ js, j ∈ cv.map (·.2) := fun j h => by
      unfold cvOk at hv1
      simp only [Bool.and_eq_true, List.all_eq_true] at hv1
      simpa using hv1.2 j h
    have vs1_ok : ∀ v ∈ vs1, v ∉ A.own ∧ v ∉ A.fix.map (·.1) := fun v h => by
      rw [List.all_eq_true] at hv2
      exact vs_ok v (by simpa using hv2 v h)
    have js1_ok : ∀ j ∈ js1, j ∈ vs1 := fun j h => by
      rw [List.all_eq_true] at hv3
      simpa using hv3 j h
    obtain ⟨Rp, smp⟩ := R1.push (o := .lst []) hD
    have ns : ¬ (A.add [D]).mv D := fun z => by
      obtain ⟨_, this⟩ := R1.mvAt z
      rw [hD] at this; cases this
    generalize hwe : wipeE ρ (cv.map (·.2)) = ρw at h00
    refine ⟨fun i m H2 => m = items.length - i ∧ i ≤ items.length ∧ ∃ s2 acc ds rest, Rel (A.add [D]) ρ s2 σ H2 ∧ (∀ a o, H1 a = some o → ¬ A.mv a → H2 a = some o) ∧ H2 D = some (.lst acc) ∧ DenAll A.K (fre (A.add [D]) σ H2) acc ds ∧
      lc2Loop set t fi1 set1 t1 fe vs1 ρw (items.drop i) s2 = some (rest, s') ∧ ds ++ rest = es, ⟨items.length, by omega, Nat.zero_le _, s1, [], [], es, Rp, fun a o h n => same_upd hD a o h, upd_same, .nil, h00, rfl⟩, ?_⟩
    rintro i m H2 ⟨rfl, hi, s2, acc, ds, rest, R2, k2, hD2, dal, hl, hds⟩
    have smF : Same F H2 := fun a o ha => k2 a o (sm a o ha) fun z => nx a o ha z
    by_cases hlt : i < items.length
    · refine .inr ⟨W.goes i H2 hlt smF, ?_⟩
      obtain ⟨di, hdi⟩ : ∃ d, items[i]? = some d := ⟨items[i], by simp [hlt]⟩
      have hdrop : items.drop i = di :: items.drop (i + 1) := by
        rw [List.drop_eq_getElem_cons hlt]
        have := List.getElem?_eq_getElem hlt
        rw [hdi] at this
        injection this with e
        rw [e]
      rw [hdrop] at hl
      unfold lc2Loop at hl
      cases h1 : set di ρw with
      | none => rw [h1] at hl; cases hl
      | some ρ3 =>
        rw [h1, Option.bind_some] at hl
        cases h2 : t ρ3 s2 with
        | none => rw [h2] at hl; cases hl
        | some x =>
          obtain ⟨bb, s3⟩ := x
          rw [h2, Option.bind_some] at hl
          refine ⟨fun H' => ∃ s2 acc ds rest, Rel (A.add [D]) ρ s2 σ H' ∧ (∀ a o, H1 a = some o → ¬ A.mv a → H' a = some o) ∧ H' D = some (.lst acc) ∧ DenAll A.K (fre (A.add [D]) σ H') acc ds ∧
            lc2Loop set t fi1 set1 t1 fe vs1 ρw (items.drop (i + 1)) s2 = some (rest, s') ∧ ds ++ rest = es, fun H' h => ⟨items.length - (i + 1), by omega, rfl, hlt, h⟩, fun v H3 hy => ?_⟩
          obtain ⟨d, e1, e2⟩ := W.yields i H2 v H3 hlt smF hy
          rw [hdi] at e1
          injection e1 with e1
          subst e1
          have C2 : Same (fre A σ H1) (fre (A.add [D]) σ H2) := fun a o ha => by
            obtain ⟨n1, n2⟩ := fre_no ha
            have h1a := fre_same a o ha
            refine fre_of (k2 a o h1a fun z => n2 (R1.mvEx z)) n1 fun z => z.elim n2 fun z => ?_
            rw [List.mem_singleton.mp z, hD] at h1a; cases h1a
          have hvv : Rel (A.add [D]) ρ s2 σ H3 ∧ Same H2 H3 ∧ Den A.K (fre (A.add [D]) σ H3) v di := by
            rcases e2 with ⟨rfl, d2⟩ | ⟨T, vs, ds', rfl, hT, rfl, d2, rfl, np⟩
            · exact ⟨R2, Same.refl _, d2.mono C2⟩
            · exact ⟨R2.mono (same_upd hT), same_upd hT, den_tup (A := A.add [D]) R2 hT (d2.mono C2) np⟩
          obtain ⟨R3, sm3, d3⟩ := hvv
          have D3 : H3 D = some (.lst acc) := sm3 D _ hD2
          have k3 : ∀ a o, H1 a = some o → ¬ A.mv a → H3 a = some o := fun a o h n => sm3 a o (k2 a o h n)
          have dal3 : DenAll A.K (fre (A.add [D]) σ H3) acc ds := dal.mono fun a o h => by
            obtain ⟨n1, n2⟩ := fre_no h
            exact fre_of (sm3 a o (fre_same a o h)) n1 n2
          obtain ⟨Rw, iw⟩ := Rel.wipe R3 (vs := cv.map (·.2)) vs_ok
          rw [hwe] at Rw
          refine ⟨A.add [D], hk, Act.add_of hw _, ρw, s2, di, ρ3, Rw, by rw [fre_iff iw]; exact d3, h1, fun σ3 R4 o4 i4 => ⟨wipe_only o4 js_ok, A.add [D], hk, Act.add_of hw _, ρ3, s2, bb, s3, R4, h2, fun H5 R5 k5 => ?_⟩⟩
          have r3 : ∀ a, IsRoot (A.add [D]) σ3 a ↔ IsRoot (A.add [D]) σ a := fun a => (i4 a).trans (iw a)
          have ke5 : Ke (A.add [D]) H3 H5 := k5.ke R3
          have D5 : H5 D = some (.lst acc) := k5 D _ D3 ns
          have k15 : ∀ a o, H1 a = some o → ¬ A.mv a → H5 a = some o := fun a o h n => k5 a o (k3 a o h n) n
          cases bb with
          | false =>
            rw [if_neg Bool.false_ne_true] at hl
            show ∃ s2 acc ds rest, _
            exact ⟨s3, acc, ds, rest, R3.backE R5 ke5, k15, D5, dal3.mono ke5.same, hl, hds⟩
          | true =>
            rw [if_pos rfl] at hl
            show (∃ B : Act, B.At X ∧ B.Of own ∧ tIN B fi1 σ3 H5 _)
            cases h3 : fi1 ρ3 s3 with
            | none => rw [h3] at hl; cases hl
            | some y =>
              obtain ⟨items1, s4⟩ := y
              rw [h3, Option.bind_some] at hl
              dsimp only at hl
              cases h4 : lcLoop set1 t1 fe (wipeE ρ3 vs1) items1 s4 with
              | none => rw [h4] at hl; cases hl
              | some z =>
              obtain ⟨es1, s6⟩ := z
              rw [h4, Option.bind_some] at hl
              dsimp only at hl
              cases h5 : lc2Loop set t fi1 set1 t1 fe vs1 ρw (items.drop (i + 1)) s6 with
              | none => rw [h5] at hl; cases hl
              | some u =>
              obtain ⟨restO, s7⟩ := u
              rw [h5] at hl
              cases hl
              refine ⟨A.add [D], hk, Act.add_of hw _, ρ3, s3, items1, s4, R5, h3, fun J1 F1 H4 R6 k6 smF1 nx1 W1 => ?_⟩
              have ke4 : Ke (A.add [D]) H3 H4 := ke5.trans (k6.ke R5)
              have D4 : H4 D = some (.lst acc) := k6 D _ D5 ns
              have k14 : ∀ a o, H1 a = some o → ¬ A.mv a → H4 a = some o := fun a o h n => k6 a o (k15 a o h n) n
              have dal4 : DenAll A.K (fre (A.add [D]) σ3 H4) acc ds := by
                rw [fre_iff r3]
                exact dal3.mono ke4.same
              generalize hw1 : wipeE ρ3 vs1 = ρv at h4
              generalize hM : ds ++ es1 = dsM
              have hMO : dsM ++ restO = es := by rw [← hM, List.append_assoc]; exact hds
              refine ⟨fun j k H => k = items1.length - j ∧ j ≤ items1.length ∧ ∃ s5 acc ds rest1, Rel (A.add [D]) ρ3 s5 σ3 H ∧ Ke (A.add [D]) H4 H ∧ (∀ a o, H1 a = some o → ¬ A.mv a → H a = some o) ∧ H D = some (.lst acc) ∧ DenAll A.K (fre (A.add [D]) σ3 H) acc ds ∧
                lcLoop set1 t1 fe ρv (items1.drop j) s5 = some (rest1, s6) ∧ ds ++ rest1 = dsM, ⟨items1.length, by omega, Nat.zero_le _, s4, acc, ds, es1, R6, Ke.refl, k14, D4, dal4, h4, hM⟩, ?_⟩
              clear D4 k14 dal4
              rintro j k H7 ⟨rfl, hj, s5, acc1, ds1, rest1, R7, ke7, k17, D7, dal7, hl7, hds7⟩
              have smF7 : Same F1 H7 := fun a o ha => ke7 a o (smF1 a o ha) (nx1 a o ha)
              by_cases hlt1 : j < items1.length
              · refine .inr ⟨W1.goes j H7 hlt1 smF7, ?_⟩
                obtain ⟨dj, hdj⟩ : ∃ d, items1[j]? = some d := ⟨items1[j], by simp [hlt1]⟩
                have hdrop1 : items1.drop j = dj :: items1.drop (j + 1) := by
                  rw [List.drop_eq_getElem_cons hlt1]
                  have := List.getElem?_eq_getElem hlt1
                  rw [hdj] at this
                  injection this with e
                  rw [e]
                rw [hdrop1] at hl7
                unfold lcLoop at hl7
                cases g1 : set1 dj ρv with
                | none => rw [g1] at hl7; cases hl7
                | some ρ5 =>
                rw [g1, Option.bind_some] at hl7
                cases g2 : t1 ρ5 s5 with
                | none => rw [g2] at hl7; cases hl7
                | some x =>
                obtain ⟨b1, s8⟩ := x
                rw [g2, Option.bind_some] at hl7
                refine ⟨fun H => ∃ s5 acc ds rest1, Rel (A.add [D]) ρ3 s5 σ3 H ∧ Ke (A.add [D]) H4 H ∧ (∀ a o, H1 a = some o → ¬ A.mv a → H a = some o) ∧ H D = some (.lst acc) ∧ DenAll A.K (fre (A.add [D]) σ3 H) acc ds ∧
                  lcLoop set1 t1 fe ρv (items1.drop (j + 1)) s5 = some (rest1, s6) ∧ ds ++ rest1 = dsM, fun H' h => ⟨items1.length - (j + 1), by omega, rfl, hlt1, h⟩, fun v1 H8 hy1 => ?_⟩
                obtain ⟨d9, e1, e2⟩ := W1.yields j H7 v1 H8 hlt1 smF7 hy1
                rw [hdj] at e1
                injection e1 with e1
                subst e1
                have hvv : Rel (A.add [D]) ρ3 s5 σ3 H8 ∧ Same H7 H8 ∧ Den A.K (fre (A.add [D]) σ3 H8) v1 dj := by
                  rcases e2 with ⟨rfl, d2⟩ | ⟨T, vs, ds', rfl, hT, rfl, d2, rfl, np⟩
                  · exact ⟨R7, Same.refl _, d2.mono ke7.same⟩
                  · exact ⟨R7.mono (same_upd hT), same_upd hT, den_tup (A := A.add [D]) R7 hT (d2.mono ke7.same) np⟩
                obtain ⟨R8, sm8, d8⟩ := hvv
                have ke8 : Ke (A.add [D]) H7 H8 := fun a o h _ => sm8 a o h
                obtain ⟨Rv, iv⟩ := Rel.wipe R8 (vs := vs1) vs1_ok
                rw [hw1] at Rv
                refine ⟨A.add [D], hk, Act.add_of hw _, ρv, s5, dj, ρ5, Rv, by rw [fre_iff iv]; exact d8, g1, fun σ5 R9 o9 i9 => ⟨wipe_only o9 js1_ok, A.add [D], hk, Act.add_of hw _, ρ5, s5, b1, s8, R9, g2, fun H9 Ra ka => ?_⟩⟩
                have r5 : ∀ a, IsRoot (A.add [D]) σ5 a ↔ IsRoot (A.add [D]) σ3 a := fun a => (i9 a).trans (iv a)
                have kea : Ke (A.add [D]) H8 H9 := ka.ke R8
                have D9 : H9 D = some (.lst acc1) := ka D _ (sm8 D _ D7) ns
                have k19 : ∀ a o, H1 a = some o → ¬ A.mv a → H9 a = some o := fun a o h n => ka a o (sm8 a o (k17 a o h n)) n
                cases b1 with
                | false =>
                  rw [if_neg Bool.false_ne_true] at hl7
                  show ∃ s5 acc ds rest1, _
                  exact ⟨s8, acc1, ds1, rest1, R8.backE Ra kea, (ke7.trans ke8).trans kea, k19, D9, dal7.mono (ke8.trans kea).same, hl7, hds7⟩
                | true =>
                  rw [if_pos rfl] at hl7
                  show (∃ B : Act, B.At X ∧ B.Of own ∧ tE B fe σ5 H9 _)
                  cases g3 : fe ρ5 s8 with
                  | none => rw [g3] at hl7; cases hl7
                  | some y =>
                  obtain ⟨ye, sa⟩ := y
                  rw [g3, Option.bind_some] at hl7
                  cases g4 : lcLoop set1 t1 fe ρv (items1.drop (j + 1)) sa with
                  | none => rw [g4] at hl7; cases hl7
                  | some z =>
                  rw [g4] at hl7
                  cases hl7
                  refine ⟨A.add [D], hk, Act.add_of hw _, ρ5, s8, ye, sa, Ra, g3, fun u Hb Rb kb db => ?_⟩
                  have Db : Hb D = some (.lst acc1) := kb D _ D9 ns
                  have keb : Ke (A.add [D]) H8 Hb := kea.trans (kb.ke Ra)
                  have Rc := R8.backE Rb keb
                  have hlen : acc1.length < sizeLine := by
                    have e1 := dal7.length
                    have e2 : (ds1 ++ ye :: z.1 ++ restO).length = es.length := by rw [show ds1 ++ ye :: z.1 = dsM from hds7, hMO]
                    rw [List.length_append, List.length_append, List.length_cons] at e2
                    have : acc1.length < 1000000 := by omega
                    exact Nat.lt_of_lt_of_le this (by decide)
                  obtain ⟨Rd, ked⟩ := Rc.appE (o := .lst (acc1 ++ [u])) nD3 ns
                  refine ⟨acc1, Db, hlen, sa, acc1 ++ [u], ds1 ++ [ye], z.1, Rd, ((ke7.trans ke8).trans keb).trans ked, fun a o h n => ?_, upd_same, ?_, g4, by rw [List.append_assoc]; exact hds7⟩
                  · have ne : a ≠ D := fun e => by rw [e, hD] at h; cases h
                    rw [upd_ne ne]
                    exact kb a o (k19 a o h n) n
                  · rw [fre_iff r5] at db
                    exact ((dal7.mono (ke8.trans keb).same).append (.cons db .nil)).mono ked.same
              · have ei : j = items1.length := by omega
                subst ei
                rw [List.drop_length] at hl7
                cases hl7
                rw [List.append_nil] at hds7
                subst hds7
                refine .inl ⟨W1.stops H7 smF7, ?_⟩
                have kef := ke4.trans ke7
                rw [fre_iff r3] at dal7
                exact ⟨s6, acc1, ds1, restO, R3.backE R7 kef, k17, D7, dal7, h5, hMO⟩
    · have ei : i = items.length := by omega
      subst ei
      rw [List.drop_length] at hl
      cases hl
      rw [List.append_nil] at hds
      subst hds
      obtain ⟨Rq, smq⟩ := R2.pull nD2 nD3
      refine .inl ⟨W.stops H2 smF, ?_⟩
      have := q D (del H2 D) (.lst acc) Rq (k1.trans fun a o h n => by
        have ne : a ≠ D := fun e => by rw [e, hD] at h; cases h
        rw [del_ne ne]; exact k2 a o h n) del_same ⟨acc, rfl, dal.mono smq⟩
      rw [upd_del hD2] at this
      exact this
theorem pf_lc2 (hi : PID X own tg iter b fi) (ok : BlkOk X.N X.env.scope scope cv)
    (hg : ∀ (s : Shared) (H : Hp) (C : Addr) (cl : List (Str × Addr)) (fp : List Addr), PGD (X.blk s H scope (compEnvC scope cl C X.env) fp) own tg js set)
    (ht : ∀ (s : Shared) (H : Hp) (C : Addr) (cl : List (Str × Addr)) (fp : List Addr), PTsD (X.blk s H scope (compEnvC scope cl C X.env) fp) own ifs t)
    (hi1 : ∀ (s : Shared) (H : Hp) (C : Addr) (cl : List (Str × Addr)) (fp : List Addr), PIN (X.blk s H scope (compEnvC scope cl C X.env) fp) own tg1 iter1 fi1)
    (hg1 : ∀ (s : Shared) (H : Hp) (C : Addr) (cl : List (Str × Addr)) (fp : List Addr), PGD (X.blk s H scope (compEnvC scope cl C X.env) fp) own tg1 js1 set1)
    (ht1 : ∀ (s : Shared) (H : Hp) (C : Addr) (cl : List (Str × Addr)) (fp : List Addr), PTsD (X.blk s H scope (compEnvC scope cl C X.env) fp) own ifs1 t1)
    (he : ∀ (s : Shared) (H : Hp) (C : Addr) (cl : List (Str × Addr)) (fp : List Addr), PD (X.blk s H scope (compEnvC scope cl C X.env) fp) own elt fe)
    (hv : cvOk2 own (cv.map (·.2)) js vs1 js1 = true := by decide) (hc : X.calm = true := by rfl) (hN : X.N.Nodup := by assumption) (hs : ∀ x, foldedSetIterable iter X.env x = pure x := by intro _; rfl) (hs1 : ∀ env x, foldedSetIterable iter1 env x = pure x := by intro _ _; rfl) :
    PF X own (.ListComp elt [⟨tg, iter, ifs, 0⟩, ⟨tg1, iter1, ifs1, 0⟩] scope pos) (fLc2 fi set t fi1 set1 t1 fe (cv.map (·.2)) vs1) := by
  refine ⟨fun A hk hw => ?_⟩
  have hsub : ∀ i ∈ vs1, i ∈ cv.map (·.2) := fun i h => by
    have hv := hv
    unfold cvOk2 at hv
    simp only [Bool.and_eq_true] at hv
    have := List.all_eq_true.mp hv.1.2 i h
    simpa using this
  exact (pe_lc2 hc hN (hi.run A hk hw) ok hsub
    (fun s H C cl fp => ⟨fun pins s' σ H' v u Q I r ⟨B, b1, b2, q⟩ => ((hg s H C cl fp).run B b1 b2).run pins s' σ H' v u Q I r q⟩)
    (fun s H C cl fp => ⟨fun pins s' σ H' Q I ⟨B, b1, b2, q⟩ => ((ht s H C cl fp).run B b1 b2).run pins s' σ H' Q I q⟩)
    (fun s H C cl fp => ⟨fun pins s' σ H' R I ⟨B, b1, b2, q⟩ => ((hi1 s H C cl fp).run B b1 b2).run pins s' σ H' R I q⟩)
    (fun s H C cl fp => ⟨fun pins s' σ H' v u Q I r ⟨B, b1, b2, q⟩ => ((hg1 s H C cl fp).run B b1 b2).run pins s' σ H' v u Q I r q⟩)
    (fun s H C cl fp => ⟨fun pins s' σ H' Q I ⟨B, b1, b2, q⟩ => ((ht1 s H C cl fp).run B b1 b2).run pins s' σ H' Q I q⟩)
    (fun s H C cl fp => ⟨fun pins s' σ H' Q I ⟨B, b1, b2, q⟩ => ((he s H C cl fp).run B b1 b2).run pins s' σ H' Q I q⟩) hs hs1).imp fun σ H Q h => lc2_imp A hk hw hv σ H Q h
end
end DL
/-! x = zip(l, m); found.append(f(a, b, [.. for .. in x])): a zip that a name holds for one statement. -/
namespace GX
open PySem PySem.Spec PyProof.Rows L2 ItX
/-- a record as it stands -/
def ExO (a : Addr) (o : Obj) : HO := .ext fun h => h.get? a = some o
theorem exO_ok {P : Program} {w : World} {H : Hp} {h : Heap} {a : Addr} {o : Obj} (e : h.get? a = some o) : ObjOk P w H h a (ExO a o) := ⟨e, ⟨_, e⟩, fun h1 h2 q k => k _ q⟩
structure ZR where
  z : Addr
  TI : Addr
  TO : Addr
  i1 : Addr
  i2 : Addr
  oz : Obj
  oTI : Obj
  oTO : Obj
  o1 : Obj
  o2 : Obj
def ZR.fps (r : ZR) : List Addr := [r.z, r.TI, r.TO, r.i1, r.i2]
def ZR.put (r : ZR) (H : Hp) : Hp := upd (upd (upd (upd (upd H r.i1 (ExO r.i1 r.o1)) r.i2 (ExO r.i2 r.o2)) r.TI (ExO r.TI r.oTI)) r.TO (ExO r.TO r.oTO)) r.z (ExO r.z r.oz)
def ZR.drop (r : ZR) (H : Hp) : Hp := dropH (dropH (dropH (dropH (dropH H r.z) r.TO) r.TI) r.i2) r.i1
structure ZR.At (r : ZR) (H : Hp) : Prop where
  z : H r.z = some (ExO r.z r.oz)
  TI : H r.TI = some (ExO r.TI r.oTI)
  TO : H r.TO = some (ExO r.TO r.oTO)
  i1 : H r.i1 = some (ExO r.i1 r.o1)
  i2 : H r.i2 = some (ExO r.i2 r.o2)
structure ZR.Ok (r : ZR) (n : Nat) (a b : Addr) : Prop where
  ap : ZipApart r.z r.TI r.TO r.i1 r.i2 a b
  ge : ∀ c ∈ r.fps, n ≤ c
  st : ∀ h : Heap, h.get? r.z = some r.oz → h.get? r.TI = some r.oTI → h.get? r.TO = some r.oTO → h.get? r.i1 = some r.o1 → h.get? r.i2 = some r.o2 →
    IsZip h r.z r.TI r.TO .none ∧ IsPair h r.TI (.ref r.i1) (.ref r.i2) ∧ (∃ x y, IsPair h r.TO x y) ∧ h.IsListIter r.i1 a 0 ∧ h.IsListIter r.i2 b 0
section
variable {r : ZR} {n : Nat} {a b : Addr} {H : Hp}
theorem ZR.put_at (ok : r.Ok n a b) : r.At (r.put H) := by
  have p := ok.ap
  refine ⟨?_, ?_, ?_, ?_, ?_⟩ <;> unfold ZR.put
  · rw [upd_same]
  · rw [upd_ne p.TIz, upd_ne p.TITO, upd_same]
  · rw [upd_ne p.TOz, upd_same]
  · rw [upd_ne p.i1z, upd_ne (Ne.symm p.TOi1), upd_ne (Ne.symm p.TIi1), upd_ne p.i12, upd_same]
  · rw [upd_ne p.i2z, upd_ne (Ne.symm p.TOi2), upd_ne (Ne.symm p.TIi2), upd_same]
theorem ZR.drop_put (ok : r.Ok n a b) (f : ∀ c ∈ r.fps, H c = none) : r.drop (r.put H) = H := by
  have p := ok.ap
  have f1 : H r.i1 = none := f _ (by simp [ZR.fps])
  have f2 : H r.i2 = none := f _ (by simp [ZR.fps])
  have f3 : H r.TI = none := f _ (by simp [ZR.fps])
  have f4 : H r.TO = none := f _ (by simp [ZR.fps])
  have f5 : H r.z = none := f _ (by simp [ZR.fps])
  unfold ZR.drop ZR.put
  rw [dropH_upd, dropH_upd, dropH_upd, dropH_upd, dropH_upd]
  · exact f1
  · rw [upd_ne (Ne.symm p.i12)]; exact f2
  · rw [upd_ne p.TIi2, upd_ne p.TIi1]; exact f3
  · rw [upd_ne (Ne.symm p.TITO), upd_ne p.TOi2, upd_ne p.TOi1]; exact f4
  · rw [upd_ne (Ne.symm p.TOz), upd_ne (Ne.symm p.TIz), upd_ne (Ne.symm p.i2z), upd_ne (Ne.symm p.i1z)]; exact f5
theorem ZR.drop_no (r : ZR) {c : Addr} (hc : c ∈ r.fps) : r.drop H c = none := by
  unfold ZR.fps at hc
  unfold ZR.drop dropH
  simp only [List.mem_cons, List.not_mem_nil, or_false] at hc
  rcases hc with e | e | e | e | e <;> simp [e]
theorem ZR.put_sub (f : ∀ c ∈ r.fps, H c = none) : Same H (r.put H) := fun c u e => by
  have n : c ∉ r.fps := fun z => by rw [f c z] at e; cases e
  unfold ZR.fps at n
  simp only [List.mem_cons, List.not_mem_nil, or_false, not_or] at n
  unfold ZR.put
  rw [upd_ne n.1, upd_ne n.2.2.1, upd_ne n.2.1, upd_ne n.2.2.2.2, upd_ne n.2.2.2.1]
  exact e
end
section
variable {X : Cx} {pins : List (Addr × Obj)} {σ : L2.St} {H : Hp} {s : Shared}
theorem inv_drop5 {r : ZR} {n : Nat} {a b : Addr} (I : Inv X pins σ H s) (t : r.At H) (ok : r.Ok n a b) : Inv X pins σ (r.drop H) s := by
  have p := ok.ap
  have I1 := inv_drop I (show H r.z = some (.ext _) from t.z)
  have I2 := inv_drop I1 (show dropH H r.z r.TO = some (.ext _) from (dropH_ne p.TOz).trans t.TO)
  have I3 := inv_drop I2 (show dropH (dropH H r.z) r.TO r.TI = some (.ext _) from (dropH_ne p.TITO).trans ((dropH_ne p.TIz).trans t.TI))
  have I4 := inv_drop I3 (show dropH (dropH (dropH H r.z) r.TO) r.TI r.i2 = some (.ext _) from (dropH_ne (Ne.symm p.TIi2)).trans ((dropH_ne (Ne.symm p.TOi2)).trans ((dropH_ne p.i2z).trans t.i2)))
  exact inv_drop I4 (show dropH (dropH (dropH (dropH H r.z) r.TO) r.TI) r.i2 r.i1 = some (.ext _) from (dropH_ne p.i12).trans ((dropH_ne (Ne.symm p.TIi1)).trans ((dropH_ne (Ne.symm p.TOi1)).trans ((dropH_ne p.i1z).trans t.i1))))
theorem take5 {r : ZR} {n : Nat} {a b : Addr} (I : Inv X pins σ H s) (ok : r.Ok n a b) (f : ∀ c ∈ r.fps, FpOk X pins H c) (ez : s.heap.get? r.z = some r.oz) (eTI : s.heap.get? r.TI = some r.oTI) (eTO : s.heap.get? r.TO = some r.oTO) (e1 : s.heap.get? r.i1 = some r.o1) (e2 : s.heap.get? r.i2 = some r.o2) : Inv X pins σ (r.put H) s := by
  have p := ok.ap
  have fz := f r.z (by simp [ZR.fps])
  have fTI := f r.TI (by simp [ZR.fps])
  have fTO := f r.TO (by simp [ZR.fps])
  have f1 := f r.i1 (by simp [ZR.fps])
  have f2 := f r.i2 (by simp [ZR.fps])
  have I1 := I.take (t' := s.toks) (h' := s.heap) (fun _ _ _ e => e) f1 (exO_ok e1)
  have I2 := I1.take (t' := s.toks) (h' := s.heap) (fun _ _ _ e => e) ⟨by rw [upd_ne (Ne.symm p.i12)]; exact f2.1, f2.2⟩ (exO_ok e2)
  have I3 := I2.take (t' := s.toks) (h' := s.heap) (fun _ _ _ e => e) ⟨by rw [upd_ne p.TIi2, upd_ne p.TIi1]; exact fTI.1, fTI.2⟩ (exO_ok eTI)
  have I4 := I3.take (t' := s.toks) (h' := s.heap) (fun _ _ _ e => e) ⟨by rw [upd_ne (Ne.symm p.TITO), upd_ne p.TOi2, upd_ne p.TOi1]; exact fTO.1, fTO.2⟩ (exO_ok eTO)
  exact I4.take (t' := s.toks) (h' := s.heap) (fun _ _ _ e => e) ⟨by rw [upd_ne (Ne.symm p.TOz), upd_ne (Ne.symm p.TIz), upd_ne (Ne.symm p.i2z), upd_ne (Ne.symm p.i1z)]; exact fz.1, fz.2⟩ (exO_ok ez)
variable {elts : List Expr} {kk k : Nat} {tpos p pos : Pos} {x : Str} {e e2 : Expr} {ta : TA}
def tZipV (X : Cx) (ta : TA) : TE := fun σ H Q => ta σ H fun vs H1 => ∃ a b xs ys, vs = [.ref a, .ref b] ∧ SqL X.K H1 a xs ∧ SqL X.K H1 b ys ∧ ∀ r : ZR, r.Ok X.s_0.heap.objs.size a b → (∀ c ∈ r.fps, H1 c = none) → Q (.ref r.z) (r.put H1)
theorem pe_zipV (hm : X.mg "zip" = none) (ha : PA X [e, e2] ta) (hg : Gl X "zip" := by rfl) (hs : starEach [e, e2] X.env = (false, eval e X.env) :: starEach [e2] X.env := by rfl) (hpl : (backTo pos (starEach [e2] X.env)).any (·.1) = false := by rfl) :
    PE X (.Call (.Name "zip" p) [e, e2] [] pos) (tZipV X ta) := by
  refine ⟨fun pins s σ H Q I h => ?_⟩
  refine Call_ (ld_blt I hg hm PyProof.Rows.boot_zip (PyProof.Rows.callWith_type1 (thn (ha.run pos pins s σ H _ I h) fun us s1 ⟨vs, H1, I1, r1, q1⟩ => ?_) hs hpl))
  obtain ⟨a, b, xs, ys, ex, hqx, hqy, q⟩ := q1
  subst ex
  cases r1 with
  | cons r rr =>
    cases rr with
    | cons r' rr =>
      cases rr
      cases r
      cases r'
      obtain ⟨its, rv, p1, _⟩ := I1.list hqx
      obtain ⟨its2, rv2, p2, _⟩ := I1.list hqy
      refine call_zip_2 p1.isList p2.isList fun h' hz hTI hTO h1 h2 hsz hk => ?_
      have I2 : Inv X pins σ H1 { s1 with heap := h' } := I1.kept (t' := s1.toks) hk
      obtain ⟨o1, e1, c1, d1⟩ := h1
      obtain ⟨o2, e2, c2, d2⟩ := h2
      have ge : ∀ c ∈ [s1.heap.objs.size + 4, s1.heap.objs.size + 2, s1.heap.objs.size + 3, s1.heap.objs.size, s1.heap.objs.size + 1], s1.heap.objs.size ≤ c := fun c hc => by
        have e' : c = s1.heap.objs.size + 4 ∨ c = s1.heap.objs.size + 2 ∨ c = s1.heap.objs.size + 3 ∨ c = s1.heap.objs.size ∨ c = s1.heap.objs.size + 1 := by simpa using hc
        rcases e' with z | z | z | z | z
        · rw [z]; exact Nat.le_add_right _ _
        · rw [z]; exact Nat.le_add_right _ _
        · rw [z]; exact Nat.le_add_right _ _
        · rw [z]; exact Nat.le_refl _
        · rw [z]; exact Nat.le_add_right _ _
      obtain ⟨oz, gz, rz⟩ : ∃ o, h'.get? (s1.heap.objs.size + 4) = some o ∧ ∀ h : Heap, h.get? (s1.heap.objs.size + 4) = some o → IsZip h (s1.heap.objs.size + 4) (s1.heap.objs.size + 2) (s1.heap.objs.size + 3) .none := ⟨_, hz, fun h e => e⟩
      obtain ⟨oTI, gTI, rTI⟩ : ∃ o, h'.get? (s1.heap.objs.size + 2) = some o ∧ ∀ h : Heap, h.get? (s1.heap.objs.size + 2) = some o → IsPair h (s1.heap.objs.size + 2) (.ref s1.heap.objs.size) (.ref (s1.heap.objs.size + 1)) := ⟨_, hTI, fun h e => e⟩
      obtain ⟨oTO, gTO, rTO⟩ : ∃ o, h'.get? (s1.heap.objs.size + 3) = some o ∧ ∀ h : Heap, h.get? (s1.heap.objs.size + 3) = some o → IsPair h (s1.heap.objs.size + 3) .none .none := ⟨_, hTO, fun h e => e⟩
      have ok : ZR.Ok { z := s1.heap.objs.size + 4, TI := s1.heap.objs.size + 2, TO := s1.heap.objs.size + 3, i1 := s1.heap.objs.size, i2 := s1.heap.objs.size + 1, oz := oz, oTI := oTI, oTO := oTO, o1 := o1, o2 := o2 } X.s_0.heap.objs.size a b :=
        ⟨PySem.W.ktu_apart s1.heap.objs.size a b p1.lt p2.lt, fun c hc => Nat.le_trans I1.sz (ge c hc), fun h z1 z2 z3 z4 z5 => ⟨rz h z1, rTI h z2, ⟨_, _, rTO h z3⟩, ⟨o1, z4, c1, d1⟩, ⟨o2, z5, c2, d2⟩⟩⟩
      have I3 := take5 I2 ok (fun c hc => I1.fpOk (ge c hc) (I1.hok.fresh (ge c hc))) gz gTI gTO e1 e2
      exact ⟨.ref (s1.heap.objs.size + 4), _, I3, rfl, q _ ok fun c hc => I1.hok.fresh (ge c hc)⟩
theorem pi_zipV (r : ZR) {a b : Addr} (ok : r.Ok X.s_0.heap.objs.size a b) (hN : X.N[k]? = some x) (hv : Vis X.env.scope x) (hd : (x == ("__debug__" : Str)) = false) (hcd : (x == ("__classdict__" : Str)) = false) :
    PI X (.Tuple elts kk tpos) (.Name x p) fun σ H R => σ[k]? = some (some (.ref r.z)) ∧ r.At H ∧ R (Itz X.K a b) (r.drop H) := by
  refine ⟨fun pins s σ H R I ⟨hs, t, q⟩ => ?_⟩
  refine thn ((pe_var (pos := p) (i := k) hN hv hd hcd).run pins s σ H (fun v H1 => v = .ref r.z ∧ H1 = H) I ⟨.ref r.z, hs, rfl, rfl⟩) fun u s1 ⟨v, H1, I1, r1, ev, eH⟩ => ?_
  subst ev
  rw [eH] at I1
  cases r1
  have st := ok.st s1.heap (I1.hok _ _ t.z).1 (I1.hok _ _ t.TI).1 (I1.hok _ _ t.TO).1 (I1.hok _ _ t.i1).1 (I1.hok _ _ t.i2).1
  refine (turn_zip (P := X.prog) (w := X.w) (K := X.K) (elts := elts) (kk := kk) (tpos := tpos) ok.ap).self X.A 0 s1 _ _ st ?_
  refine ⟨r.z, r.fps, _, _, r.drop H, rfl, inv_drop5 I1 t ok, turn_zip ok.ap, st, fun c hc => ⟨r.drop_no hc, ?_⟩, q⟩
  have tc : ∃ u, H c = some u := by
    have hc' := hc
    unfold ZR.fps at hc'
    simp only [List.mem_cons, List.not_mem_nil, or_false] at hc'
    rcases hc' with e | e | e | e | e <;> rw [e]
    · exact ⟨_, t.z⟩
    · exact ⟨_, t.TI⟩
    · exact ⟨_, t.TO⟩
    · exact ⟨_, t.i1⟩
    · exact ⟨_, t.i2⟩
  obtain ⟨u, hu⟩ := tc
  exact (inv_fp I1 hu (ok.ge c hc)).2
end
end GX
/-! x = zip(l, m); found.append(f(a, b, [.. for .. in x])) -/
namespace DL
open PySem PySem.Spec PyProof.Rows L2 GX
def fZipApp (ip i pp pm : Nat) (fz : FA) (G : List D → Option D) (set : D → Env → Option Env) (t : FT) (fe : FE) (vs : List Nat) : FS := fun ρ s => (fz ρ s).bind fun x => match x.1 with
  | [.list d1, .list d2] => if noPl (zipD d1 d2) = true then fApp i (fUs (pure1 G) (fCons (fVar pp) (fCons (fVar pm) (fCons (fLc (fun _ s => some (zipD d1 d2, s)) set t fe vs) fNil)))) (ρ.set ip none) x.2 else none
  | _ => none
theorem fZipApp_some {ip i pp pm : Nat} {fz : FA} {G : List D → Option D} {set : D → Env → Option Env} {t : FT} {fe : FE} {vs : List Nat} {ρ ρ' : Env} {s s' : Src} {fl : Fl} (h : fZipApp ip i pp pm fz G set t fe vs ρ s = some (fl, ρ', s')) :
    ∃ d1 d2 s1 da db el s2 d ds, fz ρ s = some ([.list d1, .list d2], s1) ∧ noPl (zipD d1 d2) = true ∧ (ρ.set ip none)[pp]? = some (some da) ∧ (ρ.set ip none)[pm]? = some (some db) ∧ fLc (fun _ s => some (zipD d1 d2, s)) set t fe vs (ρ.set ip none) s1 = some (el, s2) ∧
      pure1 G [da, db, el] s2 = some (d, s') ∧ (ρ.set ip none).getD i none = some (.list ds) ∧ ds.length < 1000000 ∧ fl = .nx ∧ ρ' = (ρ.set ip none).set i (some (.list (ds ++ [d]))) := by
  unfold fZipApp at h
  cases h1 : fz ρ s with
  | none => rw [h1] at h; cases h
  | some x =>
    obtain ⟨ws, s1⟩ := x
    rw [h1, Option.bind_some] at h
    dsimp only at h
    split at h
    · rename_i d1 d2
      split at h
      · rename_i np
        obtain ⟨d, ds, a1, a2, a3, a4, a5⟩ := fApp_some h
        obtain ⟨es, s2, b1, b2⟩ := fUs_some a1
        obtain ⟨da, s3, es2, c1, c2, rfl⟩ := fCons_some b1
        obtain ⟨db, s4, es3, c3, c4, rfl⟩ := fCons_some c2
        obtain ⟨el, s5, es4, c5, c6, rfl⟩ := fCons_some c4
        obtain ⟨v1, rfl⟩ := fVar_some c1
        obtain ⟨v2, rfl⟩ := fVar_some c3
        cases c6
        exact ⟨d1, d2, _, da, db, el, _, d, ds, rfl, np, v1, v2, c5, b2, a2, a3, a4, a5⟩
      · cases h
    · cases h
section
variable {X : Cx} {own : Slots} {e1 e2 elt : Expr} {elts : List Expr} {kk : Nat} {ifs : List Expr} {js : List Nat} {fz : FA} {set : D → Env → Option Env} {fe : FE} {t : FT} {G : List D → Option D} {scope : Scope} {cv : List (Str × Nat)} {y xa xb x0 g : Str} {py py2 pz cz pa pb p0 apos gp gpos cpos tpos lpos pos1 pos2 : Pos} {k : Nat} {f : Addr} {fd : FuncData} {ps : List Str}
/-- the list of pairs of a zip that a name holds -/
theorem pe_lcz (A : Act) (hk : A.At X) (hw : A.Of own) (ip : Nat) (ok : BlkOk X.N X.env.scope scope cv)
    (hg : ∀ (s : Shared) (H : Hp) (C : Addr) (cl : List (Str × Addr)) (fp : List Addr), PGD (X.blk s H scope (compEnvC scope cl C X.env) fp) own (.Tuple elts kk tpos) js set)
    (ht : ∀ (s : Shared) (H : Hp) (C : Addr) (cl : List (Str × Addr)) (fp : List Addr), PTsD (X.blk s H scope (compEnvC scope cl C X.env) fp) own ifs t)
    (he : ∀ (s : Shared) (H : Hp) (C : Addr) (cl : List (Str × Addr)) (fp : List Addr), PD (X.blk s H scope (compEnvC scope cl C X.env) fp) own elt fe)
    (hv : cvOk own (cv.map (·.2)) js = true) (hc : X.calm = true) (hN : X.N.Nodup) (hy : X.N[ip]? = some y) (hvis : Vis X.env.scope y) (hd : (y == ("__debug__" : Str)) = false) (hcd : (y == ("__classdict__" : Str)) = false) (hs : ∀ x, foldedSetIterable (.Name y py2) X.env x = pure x) :
    PE X (.ListComp elt [⟨.Tuple elts kk tpos, .Name y py2, ifs, 0⟩] scope lpos) fun σ H Q => ∃ (r : ZR) (a b : Addr) (xs ys : List V) (d1 d2 : List D), r.Ok X.s_0.heap.objs.size a b ∧ σ[ip]? = some (some (.ref r.z)) ∧ r.At H ∧ fre A σ (r.drop H) a = some (.lst xs) ∧ fre A σ (r.drop H) b = some (.lst ys) ∧
      DenAll A.K (fre A σ (r.drop H)) xs d1 ∧ DenAll A.K (fre A σ (r.drop H)) ys d2 ∧ noPl (zipD d1 d2) = true ∧ tF A (fLc (fun _ s => some (zipD d1 d2, s)) set t fe (cv.map (·.2))) σ (r.drop H) Q := by
  refine ⟨fun pins s σ H Q I ⟨r, a, b, xs, ys, d1, d2, zok, z1, z2, z3, z4, z5, z6, np, hq⟩ => ?_⟩
  have hi : PI X (.Tuple elts kk tpos) (.Name y py2) fun σ' H' R => (σ' = σ ∧ H' = H) ∧ tI A true (fun _ s => some (zipD d1 d2, s)) σ' (r.drop H') R :=
    (pi_zipV (elts := elts) (kk := kk) (tpos := tpos) (p := py2) r zok hy hvis hd hcd).imp fun σ' H' R ⟨⟨e1, e2⟩, ρ, s, items, s', R0, h0, q⟩ => by
      subst e1 e2
      cases h0
      refine ⟨z1, z2, ?_⟩
      rw [← hk.1]
      exact q _ (fre A σ' (r.drop H')) (r.drop H') R0 (Kp.refl _ _) fre_same (fun c o h z => (fre_no h).2 (R0.mvEx z)) (fun _ c o h => (fre_no h).1) (walkZL z5 z6 _ z3 z4 np)
  have hg' : ∀ (s : Shared) (H : Hp) (C : Addr) (cl : List (Str × Addr)) (fp : List Addr), PG (X.blk s H scope (compEnvC scope cl C X.env) fp) (.Tuple elts kk tpos) (fun v σ H Q => ∃ B : Act, B.At X ∧ B.Of own ∧ tG B js set v σ H Q) :=
    fun s H C cl fp => ⟨fun pins s' σ H' v u Q I r ⟨B, b1, b2, q⟩ => ((hg s H C cl fp).run B b1 b2).run pins s' σ H' v u Q I r q⟩
  have ht' : ∀ (s : Shared) (H : Hp) (C : Addr) (cl : List (Str × Addr)) (fp : List Addr), PTs (X.blk s H scope (compEnvC scope cl C X.env) fp) ifs (fun σ H Q => ∃ B : Act, B.At X ∧ B.Of own ∧ tT B t σ H Q) :=
    fun s H C cl fp => ⟨fun pins s' σ H' Q I ⟨B, b1, b2, q⟩ => ((ht s H C cl fp).run B b1 b2).run pins s' σ H' Q I q⟩
  have he' : ∀ (s : Shared) (H : Hp) (C : Addr) (cl : List (Str × Addr)) (fp : List Addr), PE (X.blk s H scope (compEnvC scope cl C X.env) fp) elt (fun σ H Q => ∃ B : Act, B.At X ∧ B.Of own ∧ tE B fe σ H Q) :=
    fun s H C cl fp => ⟨fun pins s' σ H' Q I ⟨B, b1, b2, q⟩ => ((he s H C cl fp).run B b1 b2).run pins s' σ H' Q I q⟩
  have h := lc_imp (b := true) A hk hw (fun _ _ => True) hv σ (r.drop H) Q ⟨trivial, hq⟩
  exact (pe_lc hc hN hi ok hg' ht' he' hs).run pins s σ H Q I ⟨⟨rfl, rfl⟩, h.2⟩
/-- y = zip(e1, e2); x0.append(g(xa, xb, [elt for .. in y])) -/
theorem sds_zipApp (ip i pp pm : Nat) (hz : PAD X own [e1, e2] fz) (hmz : X.mg "zip" = none)
    (Fg : FnG X.prog X.w X.K X.mg X.base CX0 k f fd ps (spU X.K own.tb false 3 (pure1 G))) (hr : RoomG k X.A) (hm : X.mg g = some (.ref f)) (hkp : PySem.W.keepIn X.K (.ref f) = true) (hb : Binds X.K fd ps [])
    (ok : BlkOk X.N X.env.scope scope cv)
    (hg : ∀ (s : Shared) (H : Hp) (C : Addr) (cl : List (Str × Addr)) (fp : List Addr), PGD (X.blk s H scope (compEnvC scope cl C X.env) fp) own (.Tuple elts kk tpos) js set)
    (ht : ∀ (s : Shared) (H : Hp) (C : Addr) (cl : List (Str × Addr)) (fp : List Addr), PTsD (X.blk s H scope (compEnvC scope cl C X.env) fp) own ifs t)
    (he : ∀ (s : Shared) (H : Hp) (C : Addr) (cl : List (Str × Addr)) (fp : List Addr), PD (X.blk s H scope (compEnvC scope cl C X.env) fp) own elt fe)
    (hv : cvOk own (cv.map (·.2)) js = true := by decide) (hw1 : own.own.contains i = true := by rfl) (hw2 : own.own.contains ip = false := by rfl) (hw3 : own.fx.contains ip = false := by rfl) (hw4 : own.own.contains pp = false := by rfl) (hw5 : own.own.contains pm = false := by rfl) (hlp : ip < own.n := by decide)
    (hc : X.calm = true := by rfl) (hN : X.N.Nodup := by assumption) (hy : X.N[ip]? = some y := by rfl) (hyl : Loc X.env.scope y := by first | exact Or.inl rfl | exact Or.inr rfl) (hvis : Vis X.env.scope y := by first | exact Or.inl rfl | exact Or.inr (Or.inl rfl) | exact Or.inr (Or.inr rfl))
    (hd : (y == ("__debug__" : Str)) = false := by decide) (hcd : (y == ("__classdict__" : Str)) = false := by decide) (hs : ∀ x, foldedSetIterable (.Name y py2) X.env x = pure x := by intro _; rfl)
    (hna : X.N[pp]? = some xa := by rfl) (hva : Vis X.env.scope xa := by first | exact Or.inl rfl | exact Or.inr (Or.inl rfl) | exact Or.inr (Or.inr rfl)) (hda : (xa == ("__debug__" : Str)) = false := by decide) (hcda : (xa == ("__classdict__" : Str)) = false := by decide)
    (hnb : X.N[pm]? = some xb := by rfl) (hvb : Vis X.env.scope xb := by first | exact Or.inl rfl | exact Or.inr (Or.inl rfl) | exact Or.inr (Or.inr rfl)) (hdb : (xb == ("__debug__" : Str)) = false := by decide) (hcdb : (xb == ("__classdict__" : Str)) = false := by decide)
    (hn0 : X.N[i]? = some x0 := by rfl) (hv0 : Vis X.env.scope x0 := by first | exact Or.inl rfl | exact Or.inr (Or.inl rfl) | exact Or.inr (Or.inr rfl)) (hd0 : (x0 == ("__debug__" : Str)) = false := by decide) (hcd0 : (x0 == ("__classdict__" : Str)) = false := by decide)
    (hgz : Gl X "zip" := by rfl) (hsz : starEach [e1, e2] X.env = (false, eval e1 X.env) :: starEach [e2] X.env := by rfl) (hplz : (backTo cz (starEach [e2] X.env)).any (·.1) = false := by rfl)
    (hs1 : swapsWith (.Call (.Name "zip" pz) [e1, e2] [] cz) (some (.Name y py)) pos1.line X.env = pure false := by rfl) (hf1 : X.fn y = true ∨ X.env.scope.names.lookup y = some .local := by first | exact .inl rfl | exact .inr rfl)
    (hgg : Gl X g := by rfl) (hdg : (g == ("__debug__" : Str)) = false := by decide)
    (st1 : starEach [.Name xa pa, .Name xb pb, .ListComp elt [⟨.Tuple elts kk tpos, .Name y py2, ifs, 0⟩] scope lpos] X.env = (false, eval (.Name xa pa) X.env) :: starEach [.Name xb pb, .ListComp elt [⟨.Tuple elts kk tpos, .Name y py2, ifs, 0⟩] scope lpos] X.env := by rfl)
    (st2 : starEach [.Name xb pb, .ListComp elt [⟨.Tuple elts kk tpos, .Name y py2, ifs, 0⟩] scope lpos] X.env = (false, eval (.Name xb pb) X.env) :: starEach [.ListComp elt [⟨.Tuple elts kk tpos, .Name y py2, ifs, 0⟩] scope lpos] X.env := by rfl)
    (st3 : starEach [.ListComp elt [⟨.Tuple elts kk tpos, .Name y py2, ifs, 0⟩] scope lpos] X.env = (false, eval (.ListComp elt [⟨.Tuple elts kk tpos, .Name y py2, ifs, 0⟩] scope lpos) X.env) :: starEach [] X.env := by rfl)
    (hplg : (backTo gpos (starEach [.Name xb pb, .ListComp elt [⟨.Tuple elts kk tpos, .Name y py2, ifs, 0⟩] scope lpos] X.env)).any (·.1) = false := by rfl)
    (hs2 : swapsWith (.Call (.Attribute (.Name x0 p0) "append" apos) [.Call (.Name g gp) [.Name xa pa, .Name xb pb, .ListComp elt [⟨.Tuple elts kk tpos, .Name y py2, ifs, 0⟩] scope lpos] [] gpos] [] cpos) none pos2.line X.env = pure false := by rfl)
    (hbase : attributeBase (.Name x0 p0) "append" X.env (eval (.Name x0 p0) X.env) = eval (.Name x0 p0) X.env := by rfl)
    (hfew : ((backTo cpos (starEach [.Call (.Name g gp) [.Name xa pa, .Name xb pb, .ListComp elt [⟨.Tuple elts kk tpos, .Name y py2, ifs, 0⟩] scope lpos] [] gpos] X.env)).all (fun x => !x.1) && (backToKw cpos (keywordEach [] X.env)).all (fun x => x.1.isSome) && decide (([.Call (.Name g gp) [.Name xa pa, .Name xb pb, .ListComp elt [⟨.Tuple elts kk tpos, .Name y py2, ifs, 0⟩] scope lpos] [] gpos] : List Expr).length + ([] : List Keyword).length + (if ([] : List Keyword).isEmpty then 0 else 1) < 30)) = true := by rfl)
    (hline : (apos.endLine == cpos.line) = true := by rfl) (hst : starEach [.Call (.Name g gp) [.Name xa pa, .Name xb pb, .ListComp elt [⟨.Tuple elts kk tpos, .Name y py2, ifs, 0⟩] scope lpos] [] gpos] X.env = (false, eval (.Call (.Name g gp) [.Name xa pa, .Name xb pb, .ListComp elt [⟨.Tuple elts kk tpos, .Name y py2, ifs, 0⟩] scope lpos] [] gpos) X.env) :: starEach [] X.env := by rfl) :
    SDs X own [.Assign [.Name y py] (.Call (.Name "zip" pz) [e1, e2] [] cz) pos1, .Expr (.Call (.Attribute (.Name x0 p0) "append" apos) [.Call (.Name g gp) [.Name xa pa, .Name xb pb, .ListComp elt [⟨.Tuple elts kk tpos, .Name y py2, ifs, 0⟩] scope lpos] [] gpos] [] cpos) pos2]
      (fZipApp ip i pp pm fz G set t fe (cv.map (·.2))) :=
  ⟨fun A hK hW => (pss_cons (ps_set hN hy hyl (pe_zipV hmz (hz.run A hK hW) hgz hsz hplz) hs1 hf1)
      (pss_one (ps_expr (pe_bm F.plainAttrs_list F.slot_list_append F.type_list_append mt_append (pe_var hn0 hv0 hd0 hcd0)
        (pa_cons (pe_callG Fg hr hgg hm hkp hb pass0 (pa_cons (pe_var hna hva hda hcda) (pa_cons (pe_var hnb hvb hdb hcdb) (pa_cons (pe_lcz A hK hW ip ok hg ht he hv hc hN hy hvis hd hcd hs) pa_nil st3) st2) st1) hdg st1 hplg) pa_nil hst) hbase hfew hline hst rfl) hs2))).imp fun E σ H h => by
    obtain ⟨ρ, s, fl, ρ', s', R, hf, q⟩ := of_tS h
    obtain ⟨d1, d2, s1, da, db, el, s2, d, ds, z1, np, v1, v2, h3, h4, h5, h6, rfl, rfl⟩ := fZipApp_some hf
    have nip := hW.nown hw2
    have hio := hW.isown hw1
    refine ⟨ρ, s, _, s1, R, z1, fun vs H1 R1 k1 t1 => ?_⟩
    cases t1 with
    | cons ta tr =>
    cases tr with
    | cons tb tr =>
    cases tr
    cases ta with
    | @lst a xs _ ga dxs =>
    cases tb with
    | @lst b ys _ gb dys =>
    refine ⟨a, b, xs, ys, rfl, hK.1 ▸ SqL.of (fre_same _ _ ga), hK.1 ▸ SqL.of (fre_same _ _ gb), fun r rok fr => ?_⟩
    have dp := ZR.drop_put rok fr
    have at0 := ZR.put_at (H := H1) rok
    have sub := ZR.put_sub fr
    -- the name holds the zip; the data knows nothing of it
    have R2 : Rel A (ρ.set ip none) s1 (σ.set ip (some (.ref r.z))) H1 := R1.set nip (hW.nfix hw3) fun d e => nomatch e
    have rs : ∀ c, IsRoot A (σ.set ip (some (.ref r.z))) c ↔ IsRoot A σ c := fun c => root_set nip _ c
    have hip : (σ.set ip (some (.ref r.z)))[ip]? = some (some (.ref r.z)) := by
      refine List.getElem?_set_self ?_
      rw [← R1.len, R1.nl, hW.n]; exact hlp
    obtain ⟨p, ws, e1, e2, e3, ns⟩ := own_list R2 hio h5
    obtain ⟨va, w1, w2⟩ := R2.val pp da v1 (hW.nown hw4)
    obtain ⟨vb, w3, w4⟩ := R2.val pm db v2 (hW.nown hw5)
    refine ⟨.ref p, e1, .inl ⟨rfl, ws, SqL.of (sub _ _ e2)⟩, va, w1, vb, w3, r, a, b, xs, ys, d1, d2, rok, hip, at0, ?_⟩
    rw [dp]
    rw [← fre_iff rs] at ga gb dxs dys
    refine ⟨ga, gb, dxs, dys, np, ρ.set ip none, s1, el, s2, R2, h3, fun p' H3 o R3 k3 hp ho => ?_⟩
    have R4 := R3.mono (same_upd (o := o) hp)
    have k4 : Kp A H1 (upd H3 p' o) := k3.trans (Kp.of (same_upd hp))
    have del : Den A.K (fre A (σ.set ip (some (.ref r.z))) (upd H3 p' o)) (.ref p') el := by
      obtain ⟨es, rfl⟩ : ∃ es, el = .list es := by
        unfold fLc at h3
        rw [Option.bind_some] at h3
        split at h3
        · cases q1 : lcLoop set t fe (wipeE (ρ.set ip none) (cv.map (·.2))) (zipD d1 d2) s1 with
          | none => simp only [q1] at h3; cases h3
          | some z => simp only [q1] at h3; cases h3; exact ⟨_, rfl⟩
        · cases h3
      obtain ⟨ws', rfl, h2⟩ := ho
      exact .lst (R3.at hp) (h2.mono (R3.sm (Kp.of (same_upd hp))))
    have u := use_pure (n := 3) (vs := [va, vb, .ref p']) (Q := fun v H5 => ∃ q xs y, (V.ref p) = .ref q ∧ [v] = [y] ∧ H5 q = some (.lst xs) ∧ xs.length < sizeLine ∧ E.nx (σ.set ip (some (.ref r.z))) (upd H5 q (.lst (xs ++ [y])))) R4 (.cons (w2.mono (R2.sm k4)) (.cons (w4.mono (R2.sm k4)) (.cons del .nil))) rfl h4 fun v H5 R5 k5 dv => by
      obtain ⟨p2, ws2, g1, g2, g3, _⟩ := own_list R5 hio h5
      rw [e1] at g1
      cases g1
      refine ⟨p, ws2, v, rfl, rfl, g2, by rw [g3.length]; exact lt24 h6, ?_⟩
      obtain ⟨R6, F6⟩ := R5.change (d := .list (ds ++ [d])) hio e1 (o := .lst (ws2 ++ [v])) ⟨_, rfl, g3.append (.cons dv .nil)⟩
      refine q _ _ R6 fun c o' hc n1 n2 => ?_
      have a1 := k5 c o' (k4 c o' (k1 c o' hc n2) n2) n2
      obtain ⟨a2, a3⟩ := F6 c o' a1 (fun z => n1 ((rs c).mp z)) n2
      exact ⟨a2, a3⟩
    rw [hK.1, hW.tb] at u
    exact u⟩
end
end DL
namespace Law
open PySem PySem.Spec PyProof.Rows L2
def top (i : Nat) : Stmt := PySem.Challenge.pw_groupsayings_k44_whole_indexes_in_endles.main.body.getD i (.Pass ⟨0, 0, 0, 0⟩)
abbrev s_is_integer : Stmt := top 7
abbrev s_is_natural : Stmt := top 8
abbrev s_is_between : Stmt := top 9
abbrev s_are_integers : Stmt := top 10
abbrev s_is_ascending : Stmt := top 11
abbrev s_exponent_of : Stmt := top 13
abbrev s_prime_powers : Stmt := top 14
abbrev s_is_prime : Stmt := top 15
abbrev s_lowest : Stmt := top 16
abbrev s_contrary_of : Stmt := top 17
abbrev s_is_a_prime : Stmt := top 22
abbrev s_is_part_in : Stmt := top 23
abbrev s_is_counted : Stmt := top 24
abbrev s_is_group_in : Stmt := top 25
abbrev s_check_group : Stmt := top 26
abbrev s_power_of : Stmt := top 28
abbrev s_is_power : Stmt := top 29
abbrev s_is_fraction : Stmt := top 30
abbrev s_is_value : Stmt := top 31
abbrev s_zero_value : Stmt := top 32
abbrev s_plus_value : Stmt := top 33
abbrev s_times_value : Stmt := top 34
abbrev s_divided_ring : Stmt := top 35
abbrev s_divided_deep : Stmt := top 36
abbrev s_divided_value : Stmt := top 37
abbrev s_are_values : Stmt := top 38
abbrev s_is_element_in : Stmt := top 39
abbrev s_trimmed : Stmt := top 40
abbrev s_zero_in : Stmt := top 41
abbrev s_filled : Stmt := top 42
abbrev s_plus_in : Stmt := top 43
abbrev s_times_in : Stmt := top 44
abbrev s_divided_in : Stmt := top 45
abbrev s_sum_in : Stmt := top 46
abbrev s_is_row_in : Stmt := top 49
abbrev s_is_lot_in : Stmt := top 50
abbrev s_check_lot : Stmt := top 51
abbrev s_raised : Stmt := top 52
abbrev s_holds_in : Stmt := top 53
abbrev s_are_elements_in : Stmt := top 54
abbrev s_lot_holds : Stmt := top 55
abbrev s_makes_zero : Stmt := top 57
abbrev s_multiple_in : Stmt := top 58
abbrev s_exponent_in : Stmt := top 59
abbrev s_torsion_in : Stmt := top 60
abbrev s_greatest_exponent : Stmt := top 61
abbrev s_index_of_line : Stmt := top 62
abbrev s_index_of_part : Stmt := top 63
abbrev s_index_of : Stmt := top 64
abbrev s_index_in : Stmt := top 65
abbrev s__law_source : Stmt := top 67
abbrev s__law_draw : Stmt := top 68
abbrev s__law_same : Stmt := top 69
abbrev s__law_gcd : Stmt := top 70
abbrev s__law_rows : Stmt := top 71
abbrev s__law_multiple : Stmt := top 72
abbrev s__law_power_in : Stmt := top 73
abbrev s__law_zero_power : Stmt := top 74
abbrev s_law : Stmt := top 75
def d_is_integer : He.DefD := ⟨("is_integer", none), "is_integer", "is_integer", defArgs s_is_integer, defBody s_is_integer, defScope s_is_integer, [], []⟩
def d_is_natural : He.DefD := ⟨("is_natural", none), "is_natural", "is_natural", defArgs s_is_natural, defBody s_is_natural, defScope s_is_natural, [], []⟩
def d_is_between : He.DefD := ⟨("is_between", none), "is_between", "is_between", defArgs s_is_between, defBody s_is_between, defScope s_is_between, [], []⟩
def d_are_integers : He.DefD := ⟨("are_integers", none), "are_integers", "are_integers", defArgs s_are_integers, defBody s_are_integers, defScope s_are_integers, [], []⟩
def d_is_ascending : He.DefD := ⟨("is_ascending", none), "is_ascending", "is_ascending", defArgs s_is_ascending, defBody s_is_ascending, defScope s_is_ascending, [], []⟩
def d_exponent_of : He.DefD := ⟨("exponent_of", none), "exponent_of", "exponent_of", defArgs s_exponent_of, defBody s_exponent_of, defScope s_exponent_of, [], []⟩
def d_prime_powers : He.DefD := ⟨("prime_powers", none), "prime_powers", "prime_powers", defArgs s_prime_powers, defBody s_prime_powers, defScope s_prime_powers, [], []⟩
def d_is_prime : He.DefD := ⟨("is_prime", none), "is_prime", "is_prime", defArgs s_is_prime, defBody s_is_prime, defScope s_is_prime, [], []⟩
def d_lowest : He.DefD := ⟨("lowest", none), "lowest", "lowest", defArgs s_lowest, defBody s_lowest, defScope s_lowest, [], []⟩
def d_contrary_of : He.DefD := ⟨("contrary_of", none), "contrary_of", "contrary_of", defArgs s_contrary_of, defBody s_contrary_of, defScope s_contrary_of, [], []⟩
def d_is_a_prime : He.DefD := ⟨("is_a_prime", none), "is_a_prime", "is_a_prime", defArgs s_is_a_prime, defBody s_is_a_prime, defScope s_is_a_prime, [], []⟩
def d_is_part_in : He.DefD := ⟨("is_part_in", none), "is_part_in", "is_part_in", defArgs s_is_part_in, defBody s_is_part_in, defScope s_is_part_in, [], []⟩
def d_is_counted : He.DefD := ⟨("is_counted", none), "is_counted", "is_counted", defArgs s_is_counted, defBody s_is_counted, defScope s_is_counted, [], []⟩
def d_is_group_in : He.DefD := ⟨("is_group_in", none), "is_group_in", "is_group_in", defArgs s_is_group_in, defBody s_is_group_in, defScope s_is_group_in, [], []⟩
def d_check_group : He.DefD := ⟨("check_group", none), "check_group", "check_group", defArgs s_check_group, defBody s_check_group, defScope s_check_group, [], []⟩
def d_power_of : He.DefD := ⟨("power_of", none), "power_of", "power_of", defArgs s_power_of, defBody s_power_of, defScope s_power_of, [], []⟩
def d_is_power : He.DefD := ⟨("is_power", none), "is_power", "is_power", defArgs s_is_power, defBody s_is_power, defScope s_is_power, [], []⟩
def d_is_fraction : He.DefD := ⟨("is_fraction", none), "is_fraction", "is_fraction", defArgs s_is_fraction, defBody s_is_fraction, defScope s_is_fraction, [], []⟩
def d_is_value : He.DefD := ⟨("is_value", none), "is_value", "is_value", defArgs s_is_value, defBody s_is_value, defScope s_is_value, [], []⟩
def d_zero_value : He.DefD := ⟨("zero_value", none), "zero_value", "zero_value", defArgs s_zero_value, defBody s_zero_value, defScope s_zero_value, [], []⟩
def d_plus_value : He.DefD := ⟨("plus_value", none), "plus_value", "plus_value", defArgs s_plus_value, defBody s_plus_value, defScope s_plus_value, [], []⟩
def d_times_value : He.DefD := ⟨("times_value", none), "times_value", "times_value", defArgs s_times_value, defBody s_times_value, defScope s_times_value, [], []⟩
def d_divided_ring : He.DefD := ⟨("divided_ring", none), "divided_ring", "divided_ring", defArgs s_divided_ring, defBody s_divided_ring, defScope s_divided_ring, [], []⟩
def d_divided_deep : He.DefD := ⟨("divided_deep", none), "divided_deep", "divided_deep", defArgs s_divided_deep, defBody s_divided_deep, defScope s_divided_deep, [], []⟩
def d_divided_value : He.DefD := ⟨("divided_value", none), "divided_value", "divided_value", defArgs s_divided_value, defBody s_divided_value, defScope s_divided_value, [], []⟩
def d_are_values : He.DefD := ⟨("are_values", none), "are_values", "are_values", defArgs s_are_values, defBody s_are_values, defScope s_are_values, [], []⟩
def d_is_element_in : He.DefD := ⟨("is_element_in", none), "is_element_in", "is_element_in", defArgs s_is_element_in, defBody s_is_element_in, defScope s_is_element_in, [], []⟩
def d_trimmed : He.DefD := ⟨("trimmed", none), "trimmed", "trimmed", defArgs s_trimmed, defBody s_trimmed, defScope s_trimmed, [], []⟩
def d_zero_in : He.DefD := ⟨("zero_in", none), "zero_in", "zero_in", defArgs s_zero_in, defBody s_zero_in, defScope s_zero_in, [], []⟩
def d_filled : He.DefD := ⟨("filled", none), "filled", "filled", defArgs s_filled, defBody s_filled, defScope s_filled, [], []⟩
def d_plus_in : He.DefD := ⟨("plus_in", none), "plus_in", "plus_in", defArgs s_plus_in, defBody s_plus_in, defScope s_plus_in, [], []⟩
def d_times_in : He.DefD := ⟨("times_in", none), "times_in", "times_in", defArgs s_times_in, defBody s_times_in, defScope s_times_in, [], []⟩
def d_divided_in : He.DefD := ⟨("divided_in", none), "divided_in", "divided_in", defArgs s_divided_in, defBody s_divided_in, defScope s_divided_in, [], []⟩
def d_sum_in : He.DefD := ⟨("sum_in", none), "sum_in", "sum_in", defArgs s_sum_in, defBody s_sum_in, defScope s_sum_in, [], []⟩
def d_is_row_in : He.DefD := ⟨("is_row_in", none), "is_row_in", "is_row_in", defArgs s_is_row_in, defBody s_is_row_in, defScope s_is_row_in, [], []⟩
def d_is_lot_in : He.DefD := ⟨("is_lot_in", none), "is_lot_in", "is_lot_in", defArgs s_is_lot_in, defBody s_is_lot_in, defScope s_is_lot_in, [], []⟩
def d_check_lot : He.DefD := ⟨("check_lot", none), "check_lot", "check_lot", defArgs s_check_lot, defBody s_check_lot, defScope s_check_lot, [], []⟩
def d_raised : He.DefD := ⟨("raised", none), "raised", "raised", defArgs s_raised, defBody s_raised, defScope s_raised, [], []⟩
def d_holds_in : He.DefD := ⟨("holds_in", none), "holds_in", "holds_in", defArgs s_holds_in, defBody s_holds_in, defScope s_holds_in, [], []⟩
def d_are_elements_in : He.DefD := ⟨("are_elements_in", none), "are_elements_in", "are_elements_in", defArgs s_are_elements_in, defBody s_are_elements_in, defScope s_are_elements_in, [], []⟩
def d_lot_holds : He.DefD := ⟨("lot_holds", none), "lot_holds", "lot_holds", defArgs s_lot_holds, defBody s_lot_holds, defScope s_lot_holds, [], []⟩
def d_makes_zero : He.DefD := ⟨("makes_zero", none), "makes_zero", "makes_zero", defArgs s_makes_zero, defBody s_makes_zero, defScope s_makes_zero, [], []⟩
def d_multiple_in : He.DefD := ⟨("multiple_in", none), "multiple_in", "multiple_in", defArgs s_multiple_in, defBody s_multiple_in, defScope s_multiple_in, [], []⟩
def d_exponent_in : He.DefD := ⟨("exponent_in", none), "exponent_in", "exponent_in", defArgs s_exponent_in, defBody s_exponent_in, defScope s_exponent_in, [], []⟩
def d_torsion_in : He.DefD := ⟨("torsion_in", none), "torsion_in", "torsion_in", defArgs s_torsion_in, defBody s_torsion_in, defScope s_torsion_in, [], []⟩
def d_greatest_exponent : He.DefD := ⟨("greatest_exponent", none), "greatest_exponent", "greatest_exponent", defArgs s_greatest_exponent, defBody s_greatest_exponent, defScope s_greatest_exponent, [], []⟩
def d_index_of_line : He.DefD := ⟨("index_of_line", none), "index_of_line", "index_of_line", defArgs s_index_of_line, defBody s_index_of_line, defScope s_index_of_line, [], []⟩
def d_index_of_part : He.DefD := ⟨("index_of_part", none), "index_of_part", "index_of_part", defArgs s_index_of_part, defBody s_index_of_part, defScope s_index_of_part, [], []⟩
def d_index_of : He.DefD := ⟨("index_of", none), "index_of", "index_of", defArgs s_index_of, defBody s_index_of, defScope s_index_of, [], []⟩
def d_index_in : He.DefD := ⟨("index_in", none), "index_in", "index_in", defArgs s_index_in, defBody s_index_in, defScope s_index_in, [], []⟩
def d__law_source : He.DefD := ⟨("_law_source", none), "_law_source", "_law_source", defArgs s__law_source, defBody s__law_source, defScope s__law_source, [], []⟩
def d__law_draw : He.DefD := ⟨("_law_draw", none), "_law_draw", "_law_draw", defArgs s__law_draw, defBody s__law_draw, defScope s__law_draw, [], []⟩
def d__law_same : He.DefD := ⟨("_law_same", none), "_law_same", "_law_same", defArgs s__law_same, defBody s__law_same, defScope s__law_same, [], []⟩
def d__law_gcd : He.DefD := ⟨("_law_gcd", none), "_law_gcd", "_law_gcd", defArgs s__law_gcd, defBody s__law_gcd, defScope s__law_gcd, [], []⟩
def d__law_rows : He.DefD := ⟨("_law_rows", none), "_law_rows", "_law_rows", defArgs s__law_rows, defBody s__law_rows, defScope s__law_rows, [], []⟩
def d__law_multiple : He.DefD := ⟨("_law_multiple", none), "_law_multiple", "_law_multiple", defArgs s__law_multiple, defBody s__law_multiple, defScope s__law_multiple, [], []⟩
def d__law_power_in : He.DefD := ⟨("_law_power_in", none), "_law_power_in", "_law_power_in", defArgs s__law_power_in, defBody s__law_power_in, defScope s__law_power_in, [], []⟩
def d__law_zero_power : He.DefD := ⟨("_law_zero_power", none), "_law_zero_power", "_law_zero_power", defArgs s__law_zero_power, defBody s__law_zero_power, defScope s__law_zero_power, [], []⟩
def d_law : He.DefD := ⟨("law", none), "law", "law", defArgs s_law, defBody s_law, defScope s_law, [], []⟩
def fn : List He.DefD := [d_is_integer, d_is_natural, d_is_between, d_are_integers, d_is_ascending, d_exponent_of, d_prime_powers, d_is_prime, d_lowest, d_contrary_of, d_is_a_prime, d_is_part_in, d_is_counted, d_is_group_in, d_check_group, d_power_of, d_is_power, d_is_fraction, d_is_value, d_zero_value, d_plus_value, d_times_value, d_divided_ring, d_divided_deep, d_divided_value, d_are_values, d_is_element_in, d_trimmed, d_zero_in, d_filled, d_plus_in, d_times_in, d_divided_in, d_sum_in, d_is_row_in, d_is_lot_in, d_check_lot, d_raised, d_holds_in, d_are_elements_in, d_lot_holds, d_makes_zero, d_multiple_in, d_exponent_in, d_torsion_in, d_greatest_exponent, d_index_of_line, d_index_of_part, d_index_of, d_index_in, d__law_source, d__law_draw, d__law_same, d__law_gcd, d__law_rows, d__law_multiple, d__law_power_in, d__law_zero_power, d_law]
def fa : List He.Fa := [.glo "is_integer", .glo "is_natural", .glo "is_between", .glo "are_integers", .glo "is_ascending", .glo "exponent_of", .glo "prime_powers", .glo "is_prime", .glo "lowest", .glo "contrary_of", .glo "is_a_prime", .glo "is_part_in", .glo "is_counted", .glo "is_group_in", .glo "check_group", .glo "power_of", .glo "is_power", .glo "is_fraction", .glo "is_value", .glo "zero_value", .glo "plus_value", .glo "times_value", .glo "divided_ring", .glo "divided_deep", .glo "divided_value", .glo "are_values", .glo "is_element_in", .glo "trimmed", .glo "zero_in", .glo "filled", .glo "plus_in", .glo "times_in", .glo "divided_in", .glo "sum_in", .glo "is_row_in", .glo "is_lot_in", .glo "check_lot", .glo "raised", .glo "holds_in", .glo "are_elements_in", .glo "lot_holds", .glo "makes_zero", .glo "multiple_in", .glo "exponent_in", .glo "torsion_in", .glo "greatest_exponent", .glo "index_of_line", .glo "index_of_part", .glo "index_of", .glo "index_in", .glo "_law_source", .glo "_law_draw", .glo "_law_same", .glo "_law_gcd", .glo "_law_rows", .glo "_law_multiple", .glo "_law_power_in", .glo "_law_zero_power", .glo "law", .int "EVER" (-1), .glo "WHOLE", .glo "BY_PRIME", .int "MOST_LETTERS" 3, .free "abs", .free "all", .free "any", .free "bool", .free "int", .free "isinstance", .free "len", .free "list", .free "max", .free "min", .free "range", .free "repr", .free "str", .free "tuple", .free "zip"]
def ex (K : PySem.W.Frag) : Bool := He.tupB K "WHOLE" [.str "line", .str "all"] && He.tupB K "BY_PRIME" [.str "apart", .str "deep"] && decide (PySem.W.nsIn K mainGlobals "gcd" = some (some (.builtin "math.gcd")))
def tf : List He.Defn := [("are_integers", none), ("is_ascending", none), ("is_group_in", none), ("are_values", none), ("is_element_in", none), ("is_lot_in", none), ("holds_in", none), ("are_elements_in", none), ("makes_zero", none)]
def names : List Str := (["is_integer", "is_natural", "is_between", "are_integers", "is_ascending", "exponent_of", "prime_powers", "is_prime", "lowest", "contrary_of", "is_a_prime", "is_part_in", "is_counted", "is_group_in", "check_group", "power_of", "is_power", "is_fraction", "is_value", "zero_value"] : List Str) ++ (["plus_value", "times_value", "divided_ring", "divided_deep", "divided_value", "are_values", "is_element_in", "trimmed", "zero_in", "filled", "plus_in", "times_in", "divided_in", "sum_in", "is_row_in", "is_lot_in", "check_lot", "raised", "holds_in", "are_elements_in"] : List Str) ++ (["lot_holds", "makes_zero", "multiple_in", "exponent_in", "torsion_in", "greatest_exponent", "index_of_line", "index_of_part", "index_of", "index_in", "_law_source", "_law_draw", "_law_same", "_law_gcd", "_law_rows", "_law_multiple", "_law_power_in", "_law_zero_power", "EVER", "WHOLE"] : List Str) ++ (["BY_PRIME", "MOST_LETTERS", "SayingError", "InvalidGroup", "InvalidElements", "InvalidLot"] : List Str)
abbrev R : PySem.W.OpenRow := PySem.W.OpenLaw.row PySem.Challenge.rw_groupsayings_k44_whole_indexes_in_endles
abbrev hk : PySem.W.Hook := He.hookX 6 fa fn [] tf ex
def ob (s : PySem.W.SharedT) : He.AlX := He.obsX 6 fa fn [] tf ex (HandSHeadRun.getT s)
theorem ob_eq (s : PySem.W.SharedT) : ob s = hk.obs s.abs := He.obsX_eq (HandSHeadRun.getT_eq s)
theorem run (w : World) : HandSHeadRun.RunEqI R (PySem.W.view R.prog [0, 75]) hk ob 4000 names w := by
  unfold HandSHeadRun.RunEqI
  kernel_rfl
end Law
namespace Law
open PySem PySem.Spec PyProof.Rows L2 GX DL
/-- a name of the module that bears data -/
def KC (K : PySem.W.Frag) (mg : Str → Option Value) (x : Str) (d : D) : Prop := ∃ v u, mg x = some u ∧ RelV v u ∧ ∀ F, Den K F v d
theorem pd_kc {X : Cx} {own : Slots} {x : Str} {d : D} {pos : Pos} (h : KC X.K X.mg x d) (hg : Gl X x := by rfl) (hdb : (x == ("__debug__" : Str)) = false := by decide) : PD X own (.Name x pos) (fC d) := by
  obtain ⟨v, u, h1, h2, h3⟩ := h
  exact pd_glob h1 h2 h3 hg hdb
theorem kn_of {G : List D → Option D} {nu nk n : Nat} {π : List Nat} (h0 : G [] = none) (hp : π.all (fun i => decide (i < nu + nk)) = true) (hl : π.length = n) : ∀ ds es : List D, (G (DL.putIn nu nk π ds es)).isSome = true → (DL.putIn nu nk π ds es).length = n := fun ds es h => by
  unfold DL.putIn at h ⊢
  split at h
  · rename_i e
    rw [if_pos e]
    have len : (ds ++ es).length = nu + nk := by rw [List.length_append, e.1, e.2]
    unfold pick
    rw [← hl]
    clear h hl
    induction π with
    | nil => rfl
    | cons i r ih =>
      rw [List.all_cons, Bool.and_eq_true, decide_eq_true_eq] at hp
      rw [List.filterMap_cons, List.getElem?_eq_getElem (by rw [len]; exact hp.1), List.length_cons, List.length_cons, ih hp.2]
  · rw [h0] at h; cases h
theorem roomG_in2 {k : Nat} {A : Around} (h : RoomG (k + 3) A) : RoomG (k + 1) A.in1.in1 :=
  have h1 : RoomG (k + 2) A.in1 := { rm := h.rm.in1, gd := h.gd }
  { rm := h1.rm.in1, gd := h.gd }
theorem nd_lst {g : FA} : ∀ ρ s d s', fLst g ρ s = some (d, s') → ∀ kvs, d ≠ .dict kvs := fun ρ s d s' h kvs e => by
  subst e
  unfold fLst at h
  cases h1 : g ρ s with
  | none => rw [h1] at h; cases h
  | some x =>
    rw [h1, Option.bind_some] at h
    split at h <;> cases h
theorem nd_lc {fi : FI} {set : D → DL.Env → Option DL.Env} {t : FT} {fe : FE} {vs : List Nat} : ∀ ρ s d s', fLc fi set t fe vs ρ s = some (d, s') → ∀ kvs, d ≠ .dict kvs := fun ρ s d s' h kvs e => by
  subst e
  unfold fLc at h
  cases h1 : fi ρ s with
  | none => rw [h1] at h; cases h
  | some x =>
    rw [h1, Option.bind_some] at h
    split at h
    · cases h2 : lcLoop set t fe (wipeE ρ vs) x.1 x.2 with
      | none => rw [h2] at h; cases h
      | some y => rw [h2] at h; cases h
    · cases h
theorem nd_lc2 {fi fi1 : FI} {set set1 : D → DL.Env → Option DL.Env} {t t1 : FT} {fe : FE} {vs vs1 : List Nat} : ∀ ρ s d s', fLc2 fi set t fi1 set1 t1 fe vs vs1 ρ s = some (d, s') → ∀ kvs, d ≠ .dict kvs := fun ρ s d s' h kvs e => by
  subst e
  unfold fLc2 at h
  cases h1 : fi ρ s with
  | none => rw [h1] at h; cases h
  | some x =>
    rw [h1, Option.bind_some] at h
    cases h2 : lc2Loop set t fi1 set1 t1 fe vs1 (wipeE ρ vs) x.1 x.2 with
    | none => rw [h2] at h; cases h
    | some y =>
      rw [h2, Option.bind_some] at h
      split at h <;> cases h
theorem nd_sortX {g : FA} : ∀ ρ s d s', fCall dSortX g ρ s = some (d, s') → ∀ kvs, d ≠ .dict kvs := fun ρ s d s' h kvs e => by
  subst e
  obtain ⟨ds, h1, h2⟩ := fCall_some h
  unfold dSortX at h2
  split at h2
  · split at h2
    · cases h2
    · split at h2 <;> cases h2
  · cases h2
theorem nd_list {g : FA} : ∀ ρ s d s', fCall dList g ρ s = some (d, s') → ∀ kvs, d ≠ .dict kvs := fun ρ s d s' h kvs e => by
  subst e
  obtain ⟨ds, h1, h2⟩ := fCall_some h
  unfold dList at h2
  split at h2 <;> cases h2
theorem nd_cat {f g : FE} : ∀ ρ s d s', fB2 dCat f g ρ s = some (d, s') → ∀ kvs, d ≠ .dict kvs := fun ρ s d s' h kvs e => by
  subst e
  obtain ⟨d, s1, e, h1, h2, h3⟩ := fB2_some h
  unfold dCat at h3
  split at h3
  · split at h3 <;> cases h3
  · cases h3
theorem nd_rep {f g : FE} : ∀ ρ s d s', fB2 dRep f g ρ s = some (d, s') → ∀ kvs, d ≠ .dict kvs := fun ρ s d s' h kvs e => by
  subst e
  obtain ⟨d, s1, e, h1, h2, h3⟩ := fB2_some h
  unfold dRep at h3
  split at h3
  · split at h3 <;> cases h3
  · cases h3
theorem nd_sortL {g : FA} : ∀ ρ s d s', fCall dSortL g ρ s = some (d, s') → ∀ kvs, d ≠ .dict kvs := fun ρ s d s' h kvs e => by
  subst e
  obtain ⟨ds, h1, h2⟩ := fCall_some h
  unfold dSortL at h2
  split at h2
  · split at h2 <;> cases h2
  · cases h2
theorem nd_sl {f : FE} {g h' : FO} : ∀ ρ s d s', fSl dSlL f g h' ρ s = some (d, s') → ∀ kvs, d ≠ .dict kvs := fun ρ s d s' h kvs e => by
  subst e
  obtain ⟨d1, s1, l, s2, u, h1, h2, h3, h4⟩ := fSl_some h
  unfold dSlL at h4
  split at h4 <;> cases h4
theorem _root_.GX.RoomG.u0 {k : Nat} {A : Around} (r : RoomG k A) : A.units < cLine := by have := r.rm.un; omega
theorem _root_.GX.RoomG.u64 {k : Nat} {A : Around} (r : RoomG k A) : A.units + 64 < cLine := by have := r.rm.un; omega
theorem _root_.GX.RoomG.u65 {k : Nat} {A : Around} (r : RoomG k A) : A.units + 65 < cLine := by have := r.rm.un; omega
theorem _root_.GX.RoomG.u1 {k : Nat} {A : Around} (r : RoomG k A) : A.units + 1 < cLine := by have := r.rm.un; omega
section
variable {P : Program} {w : World} {K : PySem.W.Frag} {mg : Str → Option Value} {base : Heap} {f : Addr} {fd : FuncData} {T : Addr → Prop}
def nat0 (d : Option D) : Nat := match d with | some (.int i) => i.natAbs + 2 | _ => 0
def c_EVER : D := .int (-1)
def c_WHOLE : D := .tuple [.str "line", .str "all"]
def c_BY_PRIME : D := .tuple [.str "apart", .str "deep"]
def c_MOST_LETTERS : D := .int 3
theorem sc_is_integer : FnScope ["value"] ["value"] (defScope s_is_integer) := ⟨rfl, rfl, rfl, by decide +kernel, rfl, by decide +kernel, by decide +kernel⟩
def m_is_integer : FS := fRet (fVal (fAnd (fTst (fU1 (dIsi "int") (fVar 0))) (fTst (fVal (fNot (fTst (fU1 (dIsi "bool") (fVar 0))))))))
theorem w_is_integer (F : Fun K "is_integer" "is_integer" s_is_integer f fd) (g_isinstance : mg "isinstance" = none) (g_int : mg "int" = none) (g_bool : mg "bool" = none) : FnG P w K mg base CX0 1 f fd ["value"] (spU K T false 1 (fFn false 1 m_is_integer)) := by
  refine fn_data T false F sc_is_integer [] rfl fun cdv A outer s H E hcd hr hN => ?_
  exact (sds_one (sd_ret (PD.toB (pd_and (pd_isi g_int rfl g_isinstance (PD.toB (pd_var 0))) (pd_one (pd_not (pd_isi g_bool rfl g_isinstance (PD.toB (pd_var 0)))))))))
def G_is_integer : List D → Option D := fun ds => (fFn false 1 m_is_integer ds (0, 0, 0)).map (·.1)
theorem sc_is_natural : FnScope ["value"] ["value"] (defScope s_is_natural) := ⟨rfl, rfl, rfl, by decide +kernel, rfl, by decide +kernel, by decide +kernel⟩
def m_is_natural : FS := fRet (fVal (fAnd (fTst (fUs (pure1 G_is_integer) (fCons (fVar 0) (fNil)))) (fTst (fB2 dGe (fVar 0) (fC (.int 0))))))
theorem w_is_natural (F : Fun K "is_natural" "is_natural" s_is_natural f fd) {f_is_integer : Addr} {fd_is_integer : FuncData} (F_is_integer : Fun K "is_integer" "is_integer" s_is_integer f_is_integer fd_is_integer) (g_is_integer : mg "is_integer" = some (.ref f_is_integer)) (W_is_integer : FnG P w K mg base CX0 1 f_is_integer fd_is_integer ["value"] (spU K T false 1 (pure1 G_is_integer))) : FnG P w K mg base CX0 2 f fd ["value"] (spU K T false 1 (fFn false 1 m_is_natural)) := by
  have b_is_integer : Binds K fd_is_integer ["value"] [] := F_is_integer.binds fun _ _ _ _ _ _ us hl => match us, hl with | [_], _ => rfl
  refine fn_data T false F sc_is_natural [] rfl fun cdv A outer s H E hcd hr hN => ?_
  exact (sds_one (sd_ret (PD.toB (pd_and (pd_user W_is_integer (hr.mono (by decide)) g_is_integer F_is_integer.kp b_is_integer (pad_cons (pd_var 0) pad_nil) (al_cons al_nil)) (pd_one (pd_cmp (op_ge) bn_ge (PD.toB (pd_var 0)) (PD.toB pd_int)))))))
def G_is_natural : List D → Option D := fun ds => (fFn false 1 m_is_natural ds (0, 0, 0)).map (·.1)
theorem sc_are_integers : FnScope ["value", "size", "one"] ["value", "size"] (defScope s_are_integers) := ⟨rfl, rfl, rfl, by decide +kernel, rfl, by decide +kernel, by decide +kernel⟩
def m_are_integers : FS := fRet (fVal (fAnd (fTst (fU1 (dIsi "tuple") (fVar 0))) (fTst (fVal (fAnd (fTst (fB2 dEq (fCall dLen (fCons (fVar 0) (fNil))) (fVar 1))) (fTst (fQ false (fSeqI (fVar 0)) (sName 2) (fUs (pure1 G_is_integer) (fCons (fVar 2) (fNil))) [2])))))))
theorem w_are_integers (F : Fun K "are_integers" "are_integers" s_are_integers f fd) (g_isinstance : mg "isinstance" = none) (g_tuple : mg "tuple" = none) (g_len : mg "len" = none) (g_all : mg "all" = none) {cA tA : Addr} (hco : fd.code = .ref cA) (TB : GxR.TabB base mg cA tA) (tT : T tA) {f_is_integer : Addr} {fd_is_integer : FuncData} (F_is_integer : Fun K "is_integer" "is_integer" s_is_integer f_is_integer fd_is_integer) (g_is_integer : mg "is_integer" = some (.ref f_is_integer)) (W_is_integer : FnG P w K mg base CX0 1 f_is_integer fd_is_integer ["value"] (spU K T false 1 (pure1 G_is_integer))) : FnG P w K mg base CX0 5 f fd ["value", "size"] (spU K T false 2 (fFn false 3 m_are_integers)) := by
  have b_is_integer : Binds K fd_is_integer ["value"] [] := F_is_integer.binds fun _ _ _ _ _ _ us hl => match us, hl with | [_], _ => rfl
  refine fn_data T false F sc_are_integers [] rfl fun cdv A outer s H E hcd hr hN => ?_
  have hr1 := fun env => (roomG_in2 hr).deeper env
  exact (sds_one (sd_ret (PD.toB (pd_and (pd_isi g_tuple rfl g_isinstance (PD.toB (pd_var 0))) (pd_and (pd_cmp (op_eqD hr.u64) bn_eq (PD.toB (pd_callB cr_lenD ca_len g_len rfl (pab_cons (PD.toB (pd_var 0)) pab_nil))) (PD.toB (pd_var 1))) (pd_one (pd_allQ (cv := [("one", 2)]) hr g_all TB (hcd.symm.trans hco) tT (pid_seq (pd_var 0)) (genOk_by (by rfl)) (fun s H ce fp pn e => (pgd_name 2 (hx := by show Loc ce.scope _; rw [e]; exact Or.inl rfl) (hf := by right; show ce.scope.names.lookup _ = _; rw [e]; rfl))) (fun s H code fp pn C => (pd_user W_is_integer ((hr1 _).mono (by decide)) g_is_integer F_is_integer.kp b_is_integer (pad_cons (pd_var 2) pad_nil) (al_cons al_nil))) (hv := by rfl))))))))
def G_are_integers : List D → Option D := fun ds => (fFn false 3 m_are_integers ds (0, 0, 0)).map (·.1)
theorem sc_is_ascending : FnScope ["items", "one", "other"] ["items"] (defScope s_is_ascending) := ⟨rfl, rfl, rfl, by decide +kernel, rfl, by decide +kernel, by decide +kernel⟩
def m_is_ascending : FS := fRet (fQ false (fRng dZip (fCons (fVar 0) (fCons (fSl dSlL (fVar 0) (fPart (fC (.int 1))) (fNoPart)) (fNil)))) (sTup (sCons (sName 1) (sCons (sName 2) (sNil)))) (fB2 dLtD (fVar 1) (fVar 2)) [1, 2])
theorem w_is_ascending (F : Fun K "is_ascending" "is_ascending" s_is_ascending f fd) (g_zip : mg "zip" = none) (g_all : mg "all" = none) {cA tA : Addr} (hco : fd.code = .ref cA) (TB : GxR.TabB base mg cA tA) (tT : T tA) : FnG P w K mg base CX0 4 f fd ["items"] (spU K T false 1 (fFn false 3 m_is_ascending)) := by
  refine fn_data T false F sc_is_ascending [] rfl fun cdv A outer s H E hcd hr hN => ?_
  have hr1 := fun env => (roomG_in2 hr).deeper env
  exact (sds_one (sd_ret (PD.toB (pd_allQ (cv := [("one", 1), ("other", 2)]) hr g_all TB (hcd.symm.trans hco) tT (pid_zip (pad_cons (pd_var 0) (pad_cons (PF.toD (pf_slL (PD.toB (pd_var 0)) (pod_some pd_int) pod_none) nd_sl) pad_nil)) g_zip) (genOk_by (by rfl)) (fun s H ce fp pn e => (pgd_tup (pgsd_cons (pgd_name 1 (hx := by show Loc ce.scope _; rw [e]; exact Or.inl rfl) (hf := by right; show ce.scope.names.lookup _ = _; rw [e]; rfl)) (pgsd_cons (pgd_name 2 (hx := by show Loc ce.scope _; rw [e]; exact Or.inl rfl) (hf := by right; show ce.scope.names.lookup _ = _; rw [e]; rfl)) pgsd_nil)))) (fun s H code fp pn C => (pd_cmp (op_ltD (hr1 _).u64) bn_ltD (PD.toB (pd_var 1)) (PD.toB (pd_var 2)))) (hv := by rfl)))))
def G_is_ascending : List D → Option D := fun ds => (fFn false 3 m_is_ascending ds (0, 0, 0)).map (·.1)
theorem sc_exponent_of : FnScope ["p", "number", "found", "left"] ["p", "number"] (defScope s_exponent_of) := ⟨rfl, rfl, rfl, by decide +kernel, rfl, by decide +kernel, by decide +kernel⟩
def m_exponent_of : FS := fSeq (fPar [2, 3] (fCons (fC (.int 0)) (fCons (fVar 1) (fNil)))) (fSeq (fWhile (fun ρ => nat0 (ρ.getD 3 none)) (fTst (fB2 dEq (fB2 dMod (fVar 3) (fVar 0)) (fC (.int 0)))) (fSeq (fAug 2 (· + ·) (fC (.int 1))) (fSet 3 (fB2 dDiv (fVar 3) (fVar 0))))) (fRet (fVar 2)))
theorem w_exponent_of (F : Fun K "exponent_of" "exponent_of" s_exponent_of f fd) : FnG P w K mg base CX0 1 f fd ["p", "number"] (spU K T false 2 (fFn false 4 m_exponent_of)) := by
  refine fn_data T false F sc_exponent_of [] rfl fun cdv A outer s H E hcd hr hN => ?_
  exact (sds_cons (sd_par (pam_val pd_int (pam_val (pd_var 1) pam_nil)) 2 3) (sds_cons (sd_while (fun ρ => nat0 (ρ.getD 3 none)) (ptd_cmp (op_eqD hr.u64) bn_eq (PD.toB (pd_op op_mod bn_mod (PD.toB (pd_var 3)) (PD.toB (pd_var 0)))) (PD.toB pd_int)) (sds_cons (sd_aug 2 ip_add pd_int) (sds_one (sd_set 3 (pd_op op_fdivW bn_div (PD.toB (pd_var 3)) (PD.toB (pd_var 0))))))) (sds_one (sd_ret (PD.toB (pd_var 2))))))
def G_exponent_of : List D → Option D := fun ds => (fFn false 4 m_exponent_of ds (0, 0, 0)).map (·.1)
theorem sc_prime_powers : FnScope ["number", "found", "left", "p"] ["number"] (defScope s_prime_powers) := ⟨rfl, rfl, rfl, by decide +kernel, rfl, by decide +kernel, by decide +kernel⟩
def m_prime_powers : FS := fSeq (fPar [1, 2, 3] (fCons (fLst (fNil)) (fCons (fVar 0) (fCons (fC (.int 2)) (fNil))))) (fSeq (fWhile (fun ρ => nat0 (ρ.getD 0 none)) (fTst (fB2 dLe (fB2 dMulI (fVar 3) (fVar 3)) (fVar 2))) (fSeq (fIfS (fTst (fB2 dEq (fB2 dMod (fVar 2) (fVar 3)) (fC (.int 0)))) (fApp 1 (fTup (fCons (fVar 3) (fCons (fUs (pure1 G_exponent_of) (fCons (fVar 3) (fCons (fVar 2) (fNil)))) (fNil))))) (fNx)) (fSeq (fWhile (fun ρ => nat0 (ρ.getD 2 none)) (fTst (fB2 dEq (fB2 dMod (fVar 2) (fVar 3)) (fC (.int 0)))) (fSet 2 (fB2 dDiv (fVar 2) (fVar 3)))) (fAug 3 (· + ·) (fC (.int 1)))))) (fRet (fIf (fTst (fB2 dGt (fVar 2) (fC (.int 1)))) (fB2 dCat (fVar 1) (fLst (fCons (fTup (fCons (fVar 2) (fCons (fC (.int 1)) (fNil)))) (fNil)))) (fVar 1))))
theorem w_prime_powers (F : Fun K "prime_powers" "prime_powers" s_prime_powers f fd) {f_exponent_of : Addr} {fd_exponent_of : FuncData} (F_exponent_of : Fun K "exponent_of" "exponent_of" s_exponent_of f_exponent_of fd_exponent_of) (g_exponent_of : mg "exponent_of" = some (.ref f_exponent_of)) (W_exponent_of : FnG P w K mg base CX0 1 f_exponent_of fd_exponent_of ["p", "number"] (spU K T false 2 (pure1 G_exponent_of))) : FnG P w K mg base CX0 2 f fd ["number"] (spU K T false 1 (fFn false 4 m_prime_powers)) := by
  have b_exponent_of : Binds K fd_exponent_of ["p", "number"] [] := F_exponent_of.binds fun _ _ _ _ _ _ us hl => match us, hl with | [_, _], _ => rfl
  refine fn_data T false F sc_prime_powers [1] rfl fun cdv A outer s H E hcd hr hN => ?_
  exact (sds_cons (sd_par3 (pam_new (pf_lst pad_nil) (pam_val (pd_var 0) (pam_val pd_int pam_nil))) 1 2 3) (sds_cons (sd_while (fun ρ => nat0 (ρ.getD 0 none)) (ptd_cmp (op_le) bn_le (PD.toB (pd_op op_mulW bn_mul (PD.toB (pd_var 3)) (PD.toB (pd_var 3)))) (PD.toB (pd_var 2))) (sds_cons (sd_if (ptd_cmp (op_eqD hr.u64) bn_eq (PD.toB (pd_op op_mod bn_mod (PD.toB (pd_var 2)) (PD.toB (pd_var 3)))) (PD.toB pd_int)) (sds_one (sd_append 1 (pd_tup (pad_cons (pd_var 3) (pad_cons (pd_user W_exponent_of (hr.mono (by decide)) g_exponent_of F_exponent_of.kp b_exponent_of (pad_cons (pd_var 3) (pad_cons (pd_var 2) pad_nil)) (al_cons (al_cons al_nil))) pad_nil))))) sds_nil) (sds_cons (sd_while (fun ρ => nat0 (ρ.getD 2 none)) (ptd_cmp (op_eqD hr.u64) bn_eq (PD.toB (pd_op op_mod bn_mod (PD.toB (pd_var 2)) (PD.toB (pd_var 3)))) (PD.toB pd_int)) (sds_one (sd_set 2 (pd_op op_fdivW bn_div (PD.toB (pd_var 2)) (PD.toB (pd_var 3)))))) (sds_one (sd_aug 3 ip_add pd_int))))) (sds_one (sd_ret (pb_ifExp (ptd_cmp (op_gt) bn_gt (PD.toB (pd_var 2)) (PD.toB pd_int)) (PF.toB (pf_op op_cat bf_cat (pb_own 1) (PF.toB (pf_lst (pad_cons (pd_tup (pad_cons (pd_var 2) (pad_cons pd_int pad_nil))) pad_nil))))) (pb_own 1))))))
def G_prime_powers : List D → Option D := fun ds => (fFn false 4 m_prime_powers ds (0, 0, 0)).map (·.1)
theorem sc_is_prime : FnScope ["number"] ["number"] (defScope s_is_prime) := ⟨rfl, rfl, rfl, by decide +kernel, rfl, by decide +kernel, by decide +kernel⟩
def m_is_prime : FS := fRet (fVal (fAnd (fTst (fB2 dGt (fVar 0) (fC (.int 1)))) (fTst (fB2 dEq (fUs (pure1 G_prime_powers) (fCons (fVar 0) (fNil))) (fLst (fCons (fTup (fCons (fVar 0) (fCons (fC (.int 1)) (fNil)))) (fNil)))))))
theorem w_is_prime (F : Fun K "is_prime" "is_prime" s_is_prime f fd) {f_prime_powers : Addr} {fd_prime_powers : FuncData} (F_prime_powers : Fun K "prime_powers" "prime_powers" s_prime_powers f_prime_powers fd_prime_powers) (g_prime_powers : mg "prime_powers" = some (.ref f_prime_powers)) (W_prime_powers : FnG P w K mg base CX0 2 f_prime_powers fd_prime_powers ["number"] (spU K T false 1 (pure1 G_prime_powers))) : FnG P w K mg base CX0 3 f fd ["number"] (spU K T false 1 (fFn false 1 m_is_prime)) := by
  have b_prime_powers : Binds K fd_prime_powers ["number"] [] := F_prime_powers.binds fun _ _ _ _ _ _ us hl => match us, hl with | [_], _ => rfl
  refine fn_data T false F sc_is_prime [] rfl fun cdv A outer s H E hcd hr hN => ?_
  exact (sds_one (sd_ret (PD.toB (pd_and (pd_cmp (op_gt) bn_gt (PD.toB (pd_var 0)) (PD.toB pd_int)) (pd_one (pd_cmp (op_eqD hr.u64) bn_eq (PD.toB (pd_user W_prime_powers (hr.mono (by decide)) g_prime_powers F_prime_powers.kp b_prime_powers (pad_cons (pd_var 0) pad_nil) (al_cons al_nil))) (PF.toB (pf_lst (pad_cons (pd_tup (pad_cons (pd_var 0) (pad_cons pd_int pad_nil))) pad_nil)))))))))
def G_is_prime : List D → Option D := fun ds => (fFn false 1 m_is_prime ds (0, 0, 0)).map (·.1)
theorem sc_is_a_prime : FnScope ["value"] ["value"] (defScope s_is_a_prime) := ⟨rfl, rfl, rfl, by decide +kernel, rfl, by decide +kernel, by decide +kernel⟩
def m_is_a_prime : FS := fRet (fVal (fAnd (fTst (fUs (pure1 G_is_integer) (fCons (fVar 0) (fNil)))) (fTst (fUs (pure1 G_is_prime) (fCons (fVar 0) (fNil))))))
theorem w_is_a_prime (F : Fun K "is_a_prime" "is_a_prime" s_is_a_prime f fd) {f_is_integer : Addr} {fd_is_integer : FuncData} (F_is_integer : Fun K "is_integer" "is_integer" s_is_integer f_is_integer fd_is_integer) (g_is_integer : mg "is_integer" = some (.ref f_is_integer)) (W_is_integer : FnG P w K mg base CX0 1 f_is_integer fd_is_integer ["value"] (spU K T false 1 (pure1 G_is_integer))) {f_is_prime : Addr} {fd_is_prime : FuncData} (F_is_prime : Fun K "is_prime" "is_prime" s_is_prime f_is_prime fd_is_prime) (g_is_prime : mg "is_prime" = some (.ref f_is_prime)) (W_is_prime : FnG P w K mg base CX0 3 f_is_prime fd_is_prime ["number"] (spU K T false 1 (pure1 G_is_prime))) : FnG P w K mg base CX0 4 f fd ["value"] (spU K T false 1 (fFn false 1 m_is_a_prime)) := by
  have b_is_integer : Binds K fd_is_integer ["value"] [] := F_is_integer.binds fun _ _ _ _ _ _ us hl => match us, hl with | [_], _ => rfl
  have b_is_prime : Binds K fd_is_prime ["number"] [] := F_is_prime.binds fun _ _ _ _ _ _ us hl => match us, hl with | [_], _ => rfl
  refine fn_data T false F sc_is_a_prime [] rfl fun cdv A outer s H E hcd hr hN => ?_
  exact (sds_one (sd_ret (PD.toB (pd_and (pd_user W_is_integer (hr.mono (by decide)) g_is_integer F_is_integer.kp b_is_integer (pad_cons (pd_var 0) pad_nil) (al_cons al_nil)) (pd_one (pd_user W_is_prime (hr.mono (by decide)) g_is_prime F_is_prime.kp b_is_prime (pad_cons (pd_var 0) pad_nil) (al_cons al_nil)))))))
def G_is_a_prime : List D → Option D := fun ds => (fFn false 1 m_is_a_prime ds (0, 0, 0)).map (·.1)
theorem sc_is_part_in : FnScope ["value"] ["value"] (defScope s_is_part_in) := ⟨rfl, rfl, rfl, by decide +kernel, rfl, by decide +kernel, by decide +kernel⟩
def m_is_part_in : FS := fSeq (fIfS (fOr (fNot (fTst (fU1 (dIsi "tuple") (fVar 0)))) (fOr (fTst (fB2 dEq (fCall dLen (fCons (fVar 0) (fNil))) (fC (.int 0)))) (fNot (fTst (fU1 (dIsi "str") (fB2 dIx (fVar 0) (fC (.int 0)))))))) (fRet (fC (.bool false))) (fNx)) (fSeq (fIfS (fTst (fB2 dIn (fB2 dIx (fVar 0) (fC (.int 0))) (fC c_WHOLE))) (fRet (fB2 dEq (fCall dLen (fCons (fVar 0) (fNil))) (fC (.int 1)))) (fNx)) (fSeq (fIfS (fTst (fB2 dIn (fB2 dIx (fVar 0) (fC (.int 0))) (fC c_BY_PRIME))) (fRet (fVal (fAnd (fTst (fB2 dEq (fCall dLen (fCons (fVar 0) (fNil))) (fC (.int 2)))) (fTst (fUs (pure1 G_is_a_prime) (fCons (fB2 dIx (fVar 0) (fC (.int 1))) (fNil))))))) (fNx)) (fRet (fVal (fAnd (fTst (fB2 dEq (fB2 dIx (fVar 0) (fC (.int 0))) (fC (.str "ring")))) (fTst (fVal (fAnd (fTst (fB2 dEq (fCall dLen (fCons (fVar 0) (fNil))) (fC (.int 3)))) (fTst (fVal (fAnd (fTst (fUs (pure1 G_is_a_prime) (fCons (fB2 dIx (fVar 0) (fC (.int 1))) (fNil)))) (fTst (fVal (fAnd (fTst (fUs (pure1 G_is_integer) (fCons (fB2 dIx (fVar 0) (fC (.int 2))) (fNil)))) (fTst (fB2 dGt (fB2 dIx (fVar 0) (fC (.int 2))) (fC (.int 0))))))))))))))))))
theorem w_is_part_in (F : Fun K "is_part_in" "is_part_in" s_is_part_in f fd) (g_isinstance : mg "isinstance" = none) (g_tuple : mg "tuple" = none) (g_len : mg "len" = none) (g_str : mg "str" = none) (k_WHOLE : KC K mg "WHOLE" c_WHOLE) (k_BY_PRIME : KC K mg "BY_PRIME" c_BY_PRIME) {f_is_a_prime : Addr} {fd_is_a_prime : FuncData} (F_is_a_prime : Fun K "is_a_prime" "is_a_prime" s_is_a_prime f_is_a_prime fd_is_a_prime) (g_is_a_prime : mg "is_a_prime" = some (.ref f_is_a_prime)) (W_is_a_prime : FnG P w K mg base CX0 4 f_is_a_prime fd_is_a_prime ["value"] (spU K T false 1 (pure1 G_is_a_prime))) {f_is_integer : Addr} {fd_is_integer : FuncData} (F_is_integer : Fun K "is_integer" "is_integer" s_is_integer f_is_integer fd_is_integer) (g_is_integer : mg "is_integer" = some (.ref f_is_integer)) (W_is_integer : FnG P w K mg base CX0 1 f_is_integer fd_is_integer ["value"] (spU K T false 1 (pure1 G_is_integer))) : FnG P w K mg base CX0 5 f fd ["value"] (spU K T false 1 (fFn false 1 m_is_part_in)) := by
  have b_is_a_prime : Binds K fd_is_a_prime ["value"] [] := F_is_a_prime.binds fun _ _ _ _ _ _ us hl => match us, hl with | [_], _ => rfl
  have b_is_integer : Binds K fd_is_integer ["value"] [] := F_is_integer.binds fun _ _ _ _ _ _ us hl => match us, hl with | [_], _ => rfl
  refine fn_data T false F sc_is_part_in [] rfl fun cdv A outer s H E hcd hr hN => ?_
  exact (sds_cons (sd_if (PWD.toT (pwd_or (ptd_not (ptd_val (pd_isi g_tuple rfl g_isinstance (PD.toB (pd_var 0))))) (pwd_or (ptd_cmp (op_eqD hr.u64) bn_eq (PD.toB (pd_callB cr_lenD ca_len g_len rfl (pab_cons (PD.toB (pd_var 0)) pab_nil))) (PD.toB pd_int)) (pwd_or1 (ptd_not (ptd_val (pd_isi g_str rfl g_isinstance (PD.toB (pd_ix (PD.toB (pd_var 0)) (PD.toB pd_int)))))))))) (sds_one (sd_ret (PD.toB pd_bl))) sds_nil) (sds_cons (sd_if (ptd_cmp (op_in_seq) bn_in (PD.toB (pd_ix (PD.toB (pd_var 0)) (PD.toB pd_int))) (PD.toB (pd_kc k_WHOLE))) (sds_one (sd_ret (PD.toB (pd_cmp (op_eqD hr.u64) bn_eq (PD.toB (pd_callB cr_lenD ca_len g_len rfl (pab_cons (PD.toB (pd_var 0)) pab_nil))) (PD.toB pd_int))))) sds_nil) (sds_cons (sd_if (ptd_cmp (op_in_seq) bn_in (PD.toB (pd_ix (PD.toB (pd_var 0)) (PD.toB pd_int))) (PD.toB (pd_kc k_BY_PRIME))) (sds_one (sd_ret (PD.toB (pd_and (pd_cmp (op_eqD hr.u64) bn_eq (PD.toB (pd_callB cr_lenD ca_len g_len rfl (pab_cons (PD.toB (pd_var 0)) pab_nil))) (PD.toB pd_int)) (pd_one (pd_user W_is_a_prime (hr.mono (by decide)) g_is_a_prime F_is_a_prime.kp b_is_a_prime (pad_cons (pd_ix (PD.toB (pd_var 0)) (PD.toB pd_int)) pad_nil) (al_cons al_nil))))))) sds_nil) (sds_one (sd_ret (PD.toB (pd_and (pd_cmp (op_eqD hr.u64) bn_eq (PD.toB (pd_ix (PD.toB (pd_var 0)) (PD.toB pd_int))) (PD.toB pd_str)) (pd_and (pd_cmp (op_eqD hr.u64) bn_eq (PD.toB (pd_callB cr_lenD ca_len g_len rfl (pab_cons (PD.toB (pd_var 0)) pab_nil))) (PD.toB pd_int)) (pd_and (pd_user W_is_a_prime (hr.mono (by decide)) g_is_a_prime F_is_a_prime.kp b_is_a_prime (pad_cons (pd_ix (PD.toB (pd_var 0)) (PD.toB pd_int)) pad_nil) (al_cons al_nil)) (pd_and (pd_user W_is_integer (hr.mono (by decide)) g_is_integer F_is_integer.kp b_is_integer (pad_cons (pd_ix (PD.toB (pd_var 0)) (PD.toB pd_int)) pad_nil) (al_cons al_nil)) (pd_one (pd_cmp (op_gt) bn_gt (PD.toB (pd_ix (PD.toB (pd_var 0)) (PD.toB pd_int))) (PD.toB pd_int)))))))))))))
def G_is_part_in : List D → Option D := fun ds => (fFn false 1 m_is_part_in ds (0, 0, 0)).map (·.1)
theorem sc_is_counted : FnScope ["value"] ["value"] (defScope s_is_counted) := ⟨rfl, rfl, rfl, by decide +kernel, rfl, by decide +kernel, by decide +kernel⟩
def m_is_counted : FS := fSeq (fIfS (fOr (fNot (fTst (fU1 (dIsi "tuple") (fVar 0)))) (fOr (fTst (fB2 dNe (fCall dLen (fCons (fVar 0) (fNil))) (fC (.int 2)))) (fOr (fNot (fTst (fUs (pure1 G_is_part_in) (fCons (fB2 dIx (fVar 0) (fC (.int 0))) (fNil))))) (fNot (fTst (fUs (pure1 G_is_integer) (fCons (fB2 dIx (fVar 0) (fC (.int 1))) (fNil)))))))) (fRet (fC (.bool false))) (fNx)) (fRet (fVal (fOr (fTst (fB2 dGt (fB2 dIx (fVar 0) (fC (.int 1))) (fC (.int 0)))) (fTst (fB2 dEq (fB2 dIx (fVar 0) (fC (.int 1))) (fC c_EVER))))))
theorem w_is_counted (F : Fun K "is_counted" "is_counted" s_is_counted f fd) (g_isinstance : mg "isinstance" = none) (g_tuple : mg "tuple" = none) (g_len : mg "len" = none) (k_EVER : KC K mg "EVER" c_EVER) {f_is_part_in : Addr} {fd_is_part_in : FuncData} (F_is_part_in : Fun K "is_part_in" "is_part_in" s_is_part_in f_is_part_in fd_is_part_in) (g_is_part_in : mg "is_part_in" = some (.ref f_is_part_in)) (W_is_part_in : FnG P w K mg base CX0 5 f_is_part_in fd_is_part_in ["value"] (spU K T false 1 (pure1 G_is_part_in))) {f_is_integer : Addr} {fd_is_integer : FuncData} (F_is_integer : Fun K "is_integer" "is_integer" s_is_integer f_is_integer fd_is_integer) (g_is_integer : mg "is_integer" = some (.ref f_is_integer)) (W_is_integer : FnG P w K mg base CX0 1 f_is_integer fd_is_integer ["value"] (spU K T false 1 (pure1 G_is_integer))) : FnG P w K mg base CX0 6 f fd ["value"] (spU K T false 1 (fFn false 1 m_is_counted)) := by
  have b_is_part_in : Binds K fd_is_part_in ["value"] [] := F_is_part_in.binds fun _ _ _ _ _ _ us hl => match us, hl with | [_], _ => rfl
  have b_is_integer : Binds K fd_is_integer ["value"] [] := F_is_integer.binds fun _ _ _ _ _ _ us hl => match us, hl with | [_], _ => rfl
  refine fn_data T false F sc_is_counted [] rfl fun cdv A outer s H E hcd hr hN => ?_
  exact (sds_cons (sd_if (PWD.toT (pwd_or (ptd_not (ptd_val (pd_isi g_tuple rfl g_isinstance (PD.toB (pd_var 0))))) (pwd_or (ptd_cmp (op_neD hr.u64) bn_ne (PD.toB (pd_callB cr_lenD ca_len g_len rfl (pab_cons (PD.toB (pd_var 0)) pab_nil))) (PD.toB pd_int)) (pwd_or (ptd_not (ptd_val (pd_user W_is_part_in (hr.mono (by decide)) g_is_part_in F_is_part_in.kp b_is_part_in (pad_cons (pd_ix (PD.toB (pd_var 0)) (PD.toB pd_int)) pad_nil) (al_cons al_nil)))) (pwd_or1 (ptd_not (ptd_val (pd_user W_is_integer (hr.mono (by decide)) g_is_integer F_is_integer.kp b_is_integer (pad_cons (pd_ix (PD.toB (pd_var 0)) (PD.toB pd_int)) pad_nil) (al_cons al_nil))))))))) (sds_one (sd_ret (PD.toB pd_bl))) sds_nil) (sds_one (sd_ret (PD.toB (pd_or (pd_cmp (op_gt) bn_gt (PD.toB (pd_ix (PD.toB (pd_var 0)) (PD.toB pd_int))) (PD.toB pd_int)) (pd_one (pd_cmp (op_eqD hr.u64) bn_eq (PD.toB (pd_ix (PD.toB (pd_var 0)) (PD.toB pd_int))) (PD.toB (pd_kc k_EVER)))))))))
def G_is_counted : List D → Option D := fun ds => (fFn false 1 m_is_counted ds (0, 0, 0)).map (·.1)
theorem sc_is_group_in : FnScope ["value", "part", "_", "pair"] ["value"] (defScope s_is_group_in) := ⟨rfl, rfl, rfl, by decide +kernel, rfl, by decide +kernel, by decide +kernel⟩
def m_is_group_in : FS := fSeq (fIfS (fOr (fNot (fTst (fU1 (dIsi "tuple") (fVar 0)))) (fNot (fTst (fQ false (fSeqI (fVar 0)) (sName 3) (fUs (pure1 G_is_counted) (fCons (fVar 3) (fNil))) [3])))) (fRet (fC (.bool false))) (fNx)) (fRet (fUs (pure1 G_is_ascending) (fCons (fLc (fSeqI (fVar 0)) (sTup (sCons (sName 1) (sCons (sName 2) (sNil)))) (fYes) (fVar 1) [1, 2]) (fNil))))
theorem w_is_group_in (F : Fun K "is_group_in" "is_group_in" s_is_group_in f fd) (g_isinstance : mg "isinstance" = none) (g_tuple : mg "tuple" = none) (g_all : mg "all" = none) {cA tA : Addr} (hco : fd.code = .ref cA) (TB : GxR.TabB base mg cA tA) (tT : T tA) {f_is_counted : Addr} {fd_is_counted : FuncData} (F_is_counted : Fun K "is_counted" "is_counted" s_is_counted f_is_counted fd_is_counted) (g_is_counted : mg "is_counted" = some (.ref f_is_counted)) (W_is_counted : FnG P w K mg base CX0 6 f_is_counted fd_is_counted ["value"] (spU K T false 1 (pure1 G_is_counted))) {f_is_ascending : Addr} {fd_is_ascending : FuncData} (F_is_ascending : Fun K "is_ascending" "is_ascending" s_is_ascending f_is_ascending fd_is_ascending) (g_is_ascending : mg "is_ascending" = some (.ref f_is_ascending)) (W_is_ascending : FnG P w K mg base CX0 4 f_is_ascending fd_is_ascending ["items"] (spU K T false 1 (pure1 G_is_ascending))) : FnG P w K mg base CX0 10 f fd ["value"] (spU K T false 1 (fFn false 4 m_is_group_in)) := by
  have b_is_counted : Binds K fd_is_counted ["value"] [] := F_is_counted.binds fun _ _ _ _ _ _ us hl => match us, hl with | [_], _ => rfl
  have b_is_ascending : Binds K fd_is_ascending ["items"] [] := F_is_ascending.binds fun _ _ _ _ _ _ us hl => match us, hl with | [_], _ => rfl
  refine fn_data T false F sc_is_group_in [] rfl fun cdv A outer s H E hcd hr hN => ?_
  have hr1 := fun env => (roomG_in2 hr).deeper env
  exact (sds_cons (sd_if (PWD.toT (pwd_or (ptd_not (ptd_val (pd_isi g_tuple rfl g_isinstance (PD.toB (pd_var 0))))) (pwd_or1 (ptd_not (ptd_val (pd_allQ (cv := [("pair", 3)]) hr g_all TB (hcd.symm.trans hco) tT (pid_seq (pd_var 0)) (genOk_by (by rfl)) (fun s H ce fp pn e => (pgd_name 3 (hx := by show Loc ce.scope _; rw [e]; exact Or.inl rfl) (hf := by right; show ce.scope.names.lookup _ = _; rw [e]; rfl))) (fun s H code fp pn C => (pd_user W_is_counted ((hr1 _).mono (by decide)) g_is_counted F_is_counted.kp b_is_counted (pad_cons (pd_var 3) pad_nil) (al_cons al_nil))) (hv := by rfl))))))) (sds_one (sd_ret (PD.toB pd_bl))) sds_nil) (sds_one (sd_ret (PD.toB (pd_user W_is_ascending (hr.mono (by decide)) g_is_ascending F_is_ascending.kp b_is_ascending (pad_cons (PF.toD (pf_lc (cv := [("part", 1), ("_", 2)]) (b := true) (pid_seq (pd_var 0)) (blkOk_by (by rfl)) (fun s H C cl fp => (pgd_tup (pgsd_cons (pgd_name 1) (pgsd_cons (pgd_name 2) pgsd_nil)))) (fun s H C cl fp => ptsd_nil) (fun s H C cl fp => (pd_var 1)) (hv := by rfl)) nd_lc) pad_nil) (al_cons al_nil))))))
def G_is_group_in : List D → Option D := fun ds => (fFn false 4 m_is_group_in ds (0, 0, 0)).map (·.1)
theorem sc_check_group : FnScope ["group"] ["group"] (defScope s_check_group) := ⟨rfl, rfl, rfl, by decide +kernel, rfl, by decide +kernel, by decide +kernel⟩
def m_check_group : FS := fIfS (fNot (fTst (fUs (pure1 G_is_group_in) (fCons (fVar 0) (fNil))))) (fNo) (fNx)
theorem w_check_group (F : Fun K "check_group" "check_group" s_check_group f fd) {f_is_group_in : Addr} {fd_is_group_in : FuncData} (F_is_group_in : Fun K "is_group_in" "is_group_in" s_is_group_in f_is_group_in fd_is_group_in) (g_is_group_in : mg "is_group_in" = some (.ref f_is_group_in)) (W_is_group_in : FnG P w K mg base CX0 10 f_is_group_in fd_is_group_in ["value"] (spU K T false 1 (pure1 G_is_group_in))) : FnG P w K mg base CX0 11 f fd ["group"] (spU K T false 1 (fFn false 1 m_check_group)) := by
  have b_is_group_in : Binds K fd_is_group_in ["value"] [] := F_is_group_in.binds fun _ _ _ _ _ _ us hl => match us, hl with | [_], _ => rfl
  refine fn_data T false F sc_check_group [] rfl fun cdv A outer s H E hcd hr hN => ?_
  exact (sds_one (sd_if (ptd_not (ptd_val (pd_user W_is_group_in (hr.mono (by decide)) g_is_group_in F_is_group_in.kp b_is_group_in (pad_cons (pd_var 0) pad_nil) (al_cons al_nil)))) (sds_one sd_no) sds_nil))
def G_check_group : List D → Option D := fun ds => (fFn false 1 m_check_group ds (0, 0, 0)).map (·.1)
theorem sc_is_value : FnScope ["part", "value"] ["part", "value"] (defScope s_is_value) := ⟨rfl, rfl, rfl, by decide +kernel, rfl, by decide +kernel, by decide +kernel⟩
def m_is_value : FS := fSeq (fIfS (fTst (fB2 dEq (fB2 dIx (fVar 0) (fC (.int 0))) (fC (.str "line")))) (fRet (fUs (pure1 G_is_integer) (fCons (fVar 1) (fNil)))) (fNx)) (fNo)
theorem w_is_value (F : Fun K "is_value" "is_value" s_is_value f fd) {f_is_integer : Addr} {fd_is_integer : FuncData} (F_is_integer : Fun K "is_integer" "is_integer" s_is_integer f_is_integer fd_is_integer) (g_is_integer : mg "is_integer" = some (.ref f_is_integer)) (W_is_integer : FnG P w K mg base CX0 1 f_is_integer fd_is_integer ["value"] (spU K T false 1 (pure1 G_is_integer))) : FnG P w K mg base CX0 2 f fd ["part", "value"] (spU K T false 2 (fFn false 2 m_is_value)) := by
  have b_is_integer : Binds K fd_is_integer ["value"] [] := F_is_integer.binds fun _ _ _ _ _ _ us hl => match us, hl with | [_], _ => rfl
  refine fn_data T false F sc_is_value [] rfl fun cdv A outer s H E hcd hr hN => ?_
  exact (sds_cons (sd_if (ptd_cmp (op_eqD hr.u64) bn_eq (PD.toB (pd_ix (PD.toB (pd_var 0)) (PD.toB pd_int))) (PD.toB pd_str)) (sds_one (sd_ret (PD.toB (pd_user W_is_integer (hr.mono (by decide)) g_is_integer F_is_integer.kp b_is_integer (pad_cons (pd_var 1) pad_nil) (al_cons al_nil))))) sds_nil) sds_no)
def G_is_value : List D → Option D := fun ds => (fFn false 2 m_is_value ds (0, 0, 0)).map (·.1)
theorem sc_zero_value : FnScope ["part"] ["part"] (defScope s_zero_value) := ⟨rfl, rfl, rfl, by decide +kernel, rfl, by decide +kernel, by decide +kernel⟩
def m_zero_value : FS := fRet (fIf (fTst (fB2 dIn (fB2 dIx (fVar 0) (fC (.int 0))) (fTup (fCons (fC (.str "line")) (fCons (fC (.str "ring")) (fNil)))))) (fC (.int 0)) (fTup (fCons (fC (.int 0)) (fCons (fC (.int 1)) (fNil)))))
theorem w_zero_value (F : Fun K "zero_value" "zero_value" s_zero_value f fd) : FnG P w K mg base CX0 1 f fd ["part"] (spU K T false 1 (fFn false 1 m_zero_value)) := by
  refine fn_data T false F sc_zero_value [] rfl fun cdv A outer s H E hcd hr hN => ?_
  exact (sds_one (sd_ret (PD.toB (pd_ifExp (ptd_cmp (op_in_seq) bn_in (PD.toB (pd_ix (PD.toB (pd_var 0)) (PD.toB pd_int))) (PD.toB (pd_tup (pad_cons pd_str (pad_cons pd_str pad_nil))))) pd_int (pd_tup (pad_cons pd_int (pad_cons pd_int pad_nil)))))))
def G_zero_value : List D → Option D := fun ds => (fFn false 1 m_zero_value ds (0, 0, 0)).map (·.1)
theorem sc_plus_value : FnScope ["part", "one", "other", "top", "bottom"] ["part", "one", "other"] (defScope s_plus_value) := ⟨rfl, rfl, rfl, by decide +kernel, rfl, by decide +kernel, by decide +kernel⟩
def m_plus_value : FS := fSeq (fIfS (fTst (fB2 dEq (fB2 dIx (fVar 0) (fC (.int 0))) (fC (.str "line")))) (fRet (fB2 dAdd (fVar 1) (fVar 2))) (fNx)) (fNo)
theorem w_plus_value (F : Fun K "plus_value" "plus_value" s_plus_value f fd) : FnG P w K mg base CX0 1 f fd ["part", "one", "other"] (spU K T false 3 (fFn false 5 m_plus_value)) := by
  refine fn_data T false F sc_plus_value [] rfl fun cdv A outer s H E hcd hr hN => ?_
  exact (sds_cons (sd_if (ptd_cmp (op_eqD hr.u64) bn_eq (PD.toB (pd_ix (PD.toB (pd_var 0)) (PD.toB pd_int))) (PD.toB pd_str)) (sds_one (sd_ret (PD.toB (pd_op op_addD bn_add (PD.toB (pd_var 1)) (PD.toB (pd_var 2)))))) sds_nil) sds_no)
def G_plus_value : List D → Option D := fun ds => (fFn false 5 m_plus_value ds (0, 0, 0)).map (·.1)
theorem sc_times_value : FnScope ["part", "many", "value", "top"] ["part", "many", "value"] (defScope s_times_value) := ⟨rfl, rfl, rfl, by decide +kernel, rfl, by decide +kernel, by decide +kernel⟩
def m_times_value : FS := fSeq (fIfS (fTst (fB2 dEq (fB2 dIx (fVar 0) (fC (.int 0))) (fC (.str "line")))) (fRet (fB2 dMulI (fVar 1) (fVar 2))) (fNx)) (fNo)
theorem w_times_value (F : Fun K "times_value" "times_value" s_times_value f fd) : FnG P w K mg base CX0 1 f fd ["part", "many", "value"] (spU K T false 3 (fFn false 4 m_times_value)) := by
  refine fn_data T false F sc_times_value [] rfl fun cdv A outer s H E hcd hr hN => ?_
  exact (sds_cons (sd_if (ptd_cmp (op_eqD hr.u64) bn_eq (PD.toB (pd_ix (PD.toB (pd_var 0)) (PD.toB pd_int))) (PD.toB pd_str)) (sds_one (sd_ret (PD.toB (pd_op op_mulW bn_mul (PD.toB (pd_var 1)) (PD.toB (pd_var 2)))))) sds_nil) sds_no)
def G_times_value : List D → Option D := fun ds => (fFn false 4 m_times_value ds (0, 0, 0)).map (·.1)
theorem sc_divided_value : FnScope ["part", "d", "value", "found"] ["part", "d", "value"] (defScope s_divided_value) := ⟨rfl, rfl, rfl, by decide +kernel, rfl, by decide +kernel, by decide +kernel⟩
def m_divided_value : FS := fSeq (fIfS (fTst (fB2 dEq (fVar 1) (fC (.int 0)))) (fNo) (fNx)) (fSeq (fIfS (fTst (fB2 dEq (fB2 dIx (fVar 0) (fC (.int 0))) (fC (.str "ring")))) (fNo) (fNx)) (fSeq (fIfS (fTst (fB2 dEq (fB2 dIx (fVar 0) (fC (.int 0))) (fC (.str "line")))) (fRet (fIf (fTst (fB2 dEq (fB2 dMod (fVar 2) (fVar 1)) (fC (.int 0)))) (fB2 dDiv (fVar 2) (fVar 1)) (fC .none))) (fNx)) (fNo)))
theorem w_divided_value (F : Fun K "divided_value" "divided_value" s_divided_value f fd) : FnG P w K mg base CX0 1 f fd ["part", "d", "value"] (spU K T false 3 (fFn false 4 m_divided_value)) := by
  refine fn_data T false F sc_divided_value [] rfl fun cdv A outer s H E hcd hr hN => ?_
  exact (sds_cons (sd_if (ptd_cmp (op_eqD hr.u64) bn_eq (PD.toB (pd_var 1)) (PD.toB pd_int)) (sds_one sd_no) sds_nil) (sds_cons (sd_if (ptd_cmp (op_eqD hr.u64) bn_eq (PD.toB (pd_ix (PD.toB (pd_var 0)) (PD.toB pd_int))) (PD.toB pd_str)) (sds_one sd_no) sds_nil) (sds_cons (sd_if (ptd_cmp (op_eqD hr.u64) bn_eq (PD.toB (pd_ix (PD.toB (pd_var 0)) (PD.toB pd_int))) (PD.toB pd_str)) (sds_one (sd_ret (PD.toB (pd_ifExp (ptd_cmp (op_eqD hr.u64) bn_eq (PD.toB (pd_op op_mod bn_mod (PD.toB (pd_var 2)) (PD.toB (pd_var 1)))) (PD.toB pd_int)) (pd_op op_fdivW bn_div (PD.toB (pd_var 2)) (PD.toB (pd_var 1))) pd_non)))) sds_nil) sds_no)))
def G_divided_value : List D → Option D := fun ds => (fFn false 4 m_divided_value ds (0, 0, 0)).map (·.1)
theorem sc_are_values : FnScope ["part", "many", "told", "value"] ["part", "many", "told"] (defScope s_are_values) := ⟨rfl, rfl, rfl, by decide +kernel, rfl, by decide +kernel, by decide +kernel⟩
def m_are_values : FS := fSeq (fIfS (fOr (fNot (fTst (fU1 (dIsi "tuple") (fVar 2)))) (fNot (fTst (fQ false (fSeqI (fVar 2)) (sName 3) (fUs (pure1 G_is_value) (fCons (fVar 0) (fCons (fVar 3) (fNil)))) [3])))) (fRet (fC (.bool false))) (fNx)) (fSeq (fIfS (fTst (fB2 dEq (fVar 1) (fC c_EVER))) (fNo) (fNx)) (fRet (fB2 dEq (fCall dLen (fCons (fVar 2) (fNil))) (fVar 1))))
theorem w_are_values (F : Fun K "are_values" "are_values" s_are_values f fd) (g_isinstance : mg "isinstance" = none) (g_tuple : mg "tuple" = none) (g_all : mg "all" = none) (g_len : mg "len" = none) (k_EVER : KC K mg "EVER" c_EVER) {cA tA : Addr} (hco : fd.code = .ref cA) (TB : GxR.TabB base mg cA tA) (tT : T tA) {f_is_value : Addr} {fd_is_value : FuncData} (F_is_value : Fun K "is_value" "is_value" s_is_value f_is_value fd_is_value) (g_is_value : mg "is_value" = some (.ref f_is_value)) (W_is_value : FnG P w K mg base CX0 2 f_is_value fd_is_value ["part", "value"] (spU K T false 2 (pure1 G_is_value))) : FnG P w K mg base CX0 6 f fd ["part", "many", "told"] (spU K T false 3 (fFn false 4 m_are_values)) := by
  have b_is_value : Binds K fd_is_value ["part", "value"] [] := F_is_value.binds fun _ _ _ _ _ _ us hl => match us, hl with | [_, _], _ => rfl
  refine fn_data T false F sc_are_values [] rfl fun cdv A outer s H E hcd hr hN => ?_
  have hr1 := fun env => (roomG_in2 hr).deeper env
  exact (sds_cons (sd_if (PWD.toT (pwd_or (ptd_not (ptd_val (pd_isi g_tuple rfl g_isinstance (PD.toB (pd_var 2))))) (pwd_or1 (ptd_not (ptd_val (pd_allQ (cv := [("value", 3)]) hr g_all TB (hcd.symm.trans hco) tT (pid_seq (pd_var 2)) (genOk_by (by rfl)) (fun s H ce fp pn e => (pgd_name 3 (hx := by show Loc ce.scope _; rw [e]; exact Or.inl rfl) (hf := by right; show ce.scope.names.lookup _ = _; rw [e]; rfl))) (fun s H code fp pn C => (pd_user W_is_value ((hr1 _).mono (by decide)) g_is_value F_is_value.kp b_is_value (pad_cons (pd_var 0) (pad_cons (pd_var 3) pad_nil)) (al_cons (al_cons al_nil)))) (hv := by rfl))))))) (sds_one (sd_ret (PD.toB pd_bl))) sds_nil) (sds_cons (sd_if (ptd_cmp (op_eqD hr.u64) bn_eq (PD.toB (pd_var 1)) (PD.toB (pd_kc k_EVER))) (sds_one sd_no) sds_nil) (sds_one (sd_ret (PD.toB (pd_cmp (op_eqD hr.u64) bn_eq (PD.toB (pd_callB cr_lenD ca_len g_len rfl (pab_cons (PD.toB (pd_var 2)) pab_nil))) (PD.toB (pd_var 1))))))))
def G_are_values : List D → Option D := fun ds => (fFn false 4 m_are_values ds (0, 0, 0)).map (·.1)
theorem sc_is_element_in : FnScope ["group", "value", "told", "part", "many"] ["group", "value"] (defScope s_is_element_in) := ⟨rfl, rfl, rfl, by decide +kernel, rfl, by decide +kernel, by decide +kernel⟩
def m_is_element_in : FS := fSeq (fIfS (fOr (fNot (fTst (fU1 (dIsi "tuple") (fVar 1)))) (fTst (fB2 dNe (fCall dLen (fCons (fVar 1) (fNil))) (fCall dLen (fCons (fVar 0) (fNil)))))) (fRet (fC (.bool false))) (fNx)) (fRet (fQ false (fRng dZip (fCons (fVar 0) (fCons (fVar 1) (fNil)))) (sTup (sCons (sTup (sCons (sName 3) (sCons (sName 4) (sNil)))) (sCons (sName 2) (sNil)))) (fUs (pure1 G_are_values) (fCons (fVar 3) (fCons (fVar 4) (fCons (fVar 2) (fNil))))) [3, 4, 2]))
theorem w_is_element_in (F : Fun K "is_element_in" "is_element_in" s_is_element_in f fd) (g_isinstance : mg "isinstance" = none) (g_tuple : mg "tuple" = none) (g_len : mg "len" = none) (g_zip : mg "zip" = none) (g_all : mg "all" = none) {cA tA : Addr} (hco : fd.code = .ref cA) (TB : GxR.TabB base mg cA tA) (tT : T tA) {f_are_values : Addr} {fd_are_values : FuncData} (F_are_values : Fun K "are_values" "are_values" s_are_values f_are_values fd_are_values) (g_are_values : mg "are_values" = some (.ref f_are_values)) (W_are_values : FnG P w K mg base CX0 6 f_are_values fd_are_values ["part", "many", "told"] (spU K T false 3 (pure1 G_are_values))) : FnG P w K mg base CX0 10 f fd ["group", "value"] (spU K T false 2 (fFn false 5 m_is_element_in)) := by
  have b_are_values : Binds K fd_are_values ["part", "many", "told"] [] := F_are_values.binds fun _ _ _ _ _ _ us hl => match us, hl with | [_, _, _], _ => rfl
  refine fn_data T false F sc_is_element_in [] rfl fun cdv A outer s H E hcd hr hN => ?_
  have hr1 := fun env => (roomG_in2 hr).deeper env
  exact (sds_cons (sd_if (PWD.toT (pwd_or (ptd_not (ptd_val (pd_isi g_tuple rfl g_isinstance (PD.toB (pd_var 1))))) (pwd_or1 (ptd_cmp (op_neD hr.u64) bn_ne (PD.toB (pd_callB cr_lenD ca_len g_len rfl (pab_cons (PD.toB (pd_var 1)) pab_nil))) (PD.toB (pd_callB cr_lenD ca_len g_len rfl (pab_cons (PD.toB (pd_var 0)) pab_nil))))))) (sds_one (sd_ret (PD.toB pd_bl))) sds_nil) (sds_one (sd_ret (PD.toB (pd_allQ (cv := [("part", 3), ("many", 4), ("told", 2)]) hr g_all TB (hcd.symm.trans hco) tT (pid_zip (pad_cons (pd_var 0) (pad_cons (pd_var 1) pad_nil)) g_zip) (genOk_by (by rfl)) (fun s H ce fp pn e => (pgd_tup (pgsd_cons (pgd_tup (pgsd_cons (pgd_name 3 (hx := by show Loc ce.scope _; rw [e]; exact Or.inl rfl) (hf := by right; show ce.scope.names.lookup _ = _; rw [e]; rfl)) (pgsd_cons (pgd_name 4 (hx := by show Loc ce.scope _; rw [e]; exact Or.inl rfl) (hf := by right; show ce.scope.names.lookup _ = _; rw [e]; rfl)) pgsd_nil))) (pgsd_cons (pgd_name 2 (hx := by show Loc ce.scope _; rw [e]; exact Or.inl rfl) (hf := by right; show ce.scope.names.lookup _ = _; rw [e]; rfl)) pgsd_nil)))) (fun s H code fp pn C => (pd_user W_are_values ((hr1 _).mono (by decide)) g_are_values F_are_values.kp b_are_values (pad_cons (pd_var 3) (pad_cons (pd_var 4) (pad_cons (pd_var 2) pad_nil))) (al_cons (al_cons (al_cons al_nil))))) (hv := by rfl))))))
def G_is_element_in : List D → Option D := fun ds => (fFn false 5 m_is_element_in ds (0, 0, 0)).map (·.1)
theorem sc_trimmed : FnScope ["part", "many", "values", "found"] ["part", "many", "values"] (defScope s_trimmed) := ⟨rfl, rfl, rfl, by decide +kernel, rfl, by decide +kernel, by decide +kernel⟩
def m_trimmed : FS := fSeq (fSet 3 (fCall dList (fCons (fVar 2) (fNil)))) (fSeq (fWhile (fun _ => 1) (fAnd (fTst (fB2 dEq (fVar 1) (fC c_EVER))) (fAnd (fTst (fB2 dGt (fCall dLen (fCons (fVar 3) (fNil))) (fC (.int 0)))) (fTst (fB2 dEq (fB2 dIx (fVar 3) (fU1 dNeg (fC (.int 1)))) (fUs (pure1 G_zero_value) (fCons (fVar 0) (fNil))))))) (fPopS 3)) (fRet (fCall dTuple (fCons (fVar 3) (fNil)))))
theorem w_trimmed (F : Fun K "trimmed" "trimmed" s_trimmed f fd) (g_list : mg "list" = none) (g_len : mg "len" = none) (g_tuple : mg "tuple" = none) (k_EVER : KC K mg "EVER" c_EVER) {f_zero_value : Addr} {fd_zero_value : FuncData} (F_zero_value : Fun K "zero_value" "zero_value" s_zero_value f_zero_value fd_zero_value) (g_zero_value : mg "zero_value" = some (.ref f_zero_value)) (W_zero_value : FnG P w K mg base CX0 1 f_zero_value fd_zero_value ["part"] (spU K T false 1 (pure1 G_zero_value))) : FnG P w K mg base CX0 2 f fd ["part", "many", "values"] (spU K T false 3 (fFn false 4 m_trimmed)) := by
  have b_zero_value : Binds K fd_zero_value ["part"] [] := F_zero_value.binds fun _ _ _ _ _ _ us hl => match us, hl with | [_], _ => rfl
  refine fn_data T false F sc_trimmed [3] rfl fun cdv A outer s H E hcd hr hN => ?_
  exact (sds_cons (sd_setOwn 3 (pf_callTy call_list_of cf_list g_list rfl (pab_cons (PD.toB (pd_var 2)) pab_nil)) (hlen := by show 3 < 4; decide)) (sds_cons (sd_while (fun _ => 1) (PWD.toT (pwd_and (ptd_cmp (op_eqD hr.u64) bn_eq (PD.toB (pd_var 1)) (PD.toB (pd_kc k_EVER))) (pwd_and (ptd_cmp (op_gt) bn_gt (PD.toB (pd_callB cr_lenD ca_len g_len rfl (pab_cons (pb_own 3) pab_nil))) (PD.toB pd_int)) (pwd_and1 (ptd_cmp (op_eqD hr.u64) bn_eq (PD.toB (pd_ix (pb_own 3) (PD.toB (pd_un un_neg un_negD (PD.toB pd_int))))) (PD.toB (pd_user W_zero_value (hr.mono (by decide)) g_zero_value F_zero_value.kp b_zero_value (pad_cons (pd_var 0) pad_nil) (al_cons al_nil)))))))) (sds_one (sd_pop 3))) (sds_one (sd_ret (PD.toB (pd_callTy call_tupF ca_tuple g_tuple rfl (pab_cons (pb_own 3) pab_nil)))))))
def G_trimmed : List D → Option D := fun ds => (fFn false 4 m_trimmed ds (0, 0, 0)).map (·.1)
theorem sc_zero_in : FnScope ["group", "part", "many"] ["group"] (defScope s_zero_in) := ⟨rfl, rfl, rfl, by decide +kernel, rfl, by decide +kernel, by decide +kernel⟩
def m_zero_in : FS := fRet (fCall dTuple (fCons (fLc (fSeqI (fVar 0)) (sTup (sCons (sName 1) (sCons (sName 2) (sNil)))) (fYes) (fB2 dMulT (fTup (fCons (fUs (pure1 G_zero_value) (fCons (fVar 1) (fNil))) (fNil))) (fCall dMax2 (fCons (fC (.int 0)) (fCons (fVar 2) (fNil))))) [1, 2]) (fNil)))
theorem w_zero_in (F : Fun K "zero_in" "zero_in" s_zero_in f fd) (g_max : mg "max" = none) (g_tuple : mg "tuple" = none) {f_zero_value : Addr} {fd_zero_value : FuncData} (F_zero_value : Fun K "zero_value" "zero_value" s_zero_value f_zero_value fd_zero_value) (g_zero_value : mg "zero_value" = some (.ref f_zero_value)) (W_zero_value : FnG P w K mg base CX0 1 f_zero_value fd_zero_value ["part"] (spU K T false 1 (pure1 G_zero_value))) : FnG P w K mg base CX0 2 f fd ["group"] (spU K T false 1 (fFn false 3 m_zero_in)) := by
  have b_zero_value : Binds K fd_zero_value ["part"] [] := F_zero_value.binds fun _ _ _ _ _ _ us hl => match us, hl with | [_], _ => rfl
  refine fn_data T false F sc_zero_in [] rfl fun cdv A outer s H E hcd hr hN => ?_
  exact (sds_one (sd_ret (PD.toB (pd_callTy call_tupF ca_tuple g_tuple rfl (pab_cons (PF.toB (pf_lc (cv := [("part", 1), ("many", 2)]) (b := true) (pid_seq (pd_var 0)) (blkOk_by (by rfl)) (fun s H C cl fp => (pgd_tup (pgsd_cons (pgd_name 1) (pgsd_cons (pgd_name 2) pgsd_nil)))) (fun s H C cl fp => ptsd_nil) (fun s H C cl fp => (pd_op op_mulT bn_mulT (PD.toB (pd_tup (pad_cons (pd_user W_zero_value (hr.mono (by decide)) g_zero_value F_zero_value.kp b_zero_value (pad_cons (pd_var 1) pad_nil) (al_cons al_nil)) pad_nil))) (PD.toB (pd_callB (call_max2 rfl) ca_max2 g_max rfl (pab_cons (PD.toB pd_int) (pab_cons (PD.toB (pd_var 2)) pab_nil)))))) (hv := by rfl))) pab_nil)))))
def G_zero_in : List D → Option D := fun ds => (fFn false 3 m_zero_in ds (0, 0, 0)).map (·.1)
theorem sc_filled : FnScope ["part", "values", "many"] ["part", "values", "many"] (defScope s_filled) := ⟨rfl, rfl, rfl, by decide +kernel, rfl, by decide +kernel, by decide +kernel⟩
def m_filled : FS := fRet (fB2 dCat (fCall dList (fCons (fVar 1) (fNil))) (fB2 dRep (fLst (fCons (fUs (pure1 G_zero_value) (fCons (fVar 0) (fNil))) (fNil))) (fB2 dSub (fVar 2) (fCall dLen (fCons (fVar 1) (fNil))))))
theorem w_filled (F : Fun K "filled" "filled" s_filled f fd) (g_list : mg "list" = none) (g_len : mg "len" = none) {f_zero_value : Addr} {fd_zero_value : FuncData} (F_zero_value : Fun K "zero_value" "zero_value" s_zero_value f_zero_value fd_zero_value) (g_zero_value : mg "zero_value" = some (.ref f_zero_value)) (W_zero_value : FnG P w K mg base CX0 1 f_zero_value fd_zero_value ["part"] (spU K T false 1 (pure1 G_zero_value))) : FnG P w K mg base CX0 2 f fd ["part", "values", "many"] (spU K T false 3 (fFn false 3 m_filled)) := by
  have b_zero_value : Binds K fd_zero_value ["part"] [] := F_zero_value.binds fun _ _ _ _ _ _ us hl => match us, hl with | [_], _ => rfl
  refine fn_data T false F sc_filled [] rfl fun cdv A outer s H E hcd hr hN => ?_
  exact (sds_one (sd_ret (PF.toB (pf_op op_cat bf_cat (PF.toB (pf_callTy call_list_of cf_list g_list rfl (pab_cons (PD.toB (pd_var 1)) pab_nil))) (PF.toB (pf_op op_rep bf_rep (PF.toB (pf_lst (pad_cons (pd_user W_zero_value (hr.mono (by decide)) g_zero_value F_zero_value.kp b_zero_value (pad_cons (pd_var 0) pad_nil) (al_cons al_nil)) pad_nil))) (PD.toB (pd_op op_sub bn_sub (PD.toB (pd_var 2)) (PD.toB (pd_callB cr_lenD ca_len g_len rfl (pab_cons (PD.toB (pd_var 1)) pab_nil)))))))))))
def G_filled : List D → Option D := fun ds => (fFn false 3 m_filled ds (0, 0, 0)).map (·.1)
theorem sc_plus_in : FnScope ["group", "one", "other", "found", "mine", "theirs", "longest", "pairs", "part", "many", "left", "right"] ["group", "one", "other"] (defScope s_plus_in) := ⟨rfl, rfl, rfl, by decide +kernel, rfl, by decide +kernel, by decide +kernel⟩
def m_plus_in : FS := fSeq (fSet 3 (fLst (fNil))) (fSeq (fFor (fRng dZip3 (fCons (fVar 0) (fCons (fVar 1) (fCons (fVar 2) (fNil))))) (sTup (sCons (sTup (sCons (sName 8) (sCons (sName 9) (sNil)))) (sCons (sName 4) (sCons (sName 5) (sNil))))) (fSeq (fSet 6 (fCall dMax2 (fCons (fCall dLen (fCons (fVar 4) (fNil))) (fCons (fCall dLen (fCons (fVar 5) (fNil))) (fNil))))) (fZipApp 7 3 8 9 (fCons (fUs (pure1 G_filled) (fCons (fVar 8) (fCons (fVar 4) (fCons (fVar 6) (fNil))))) (fCons (fUs (pure1 G_filled) (fCons (fVar 8) (fCons (fVar 5) (fCons (fVar 6) (fNil))))) (fNil))) G_trimmed (sTup (sCons (sName 10) (sCons (sName 11) (sNil)))) (fYes) (fUs (pure1 G_plus_value) (fCons (fVar 8) (fCons (fVar 10) (fCons (fVar 11) (fNil))))) [10, 11]))) (fRet (fCall dTuple (fCons (fVar 3) (fNil)))))
theorem w_plus_in (F : Fun K "plus_in" "plus_in" s_plus_in f fd) (g_zip : mg "zip" = none) (g_len : mg "len" = none) (g_max : mg "max" = none) (g_tuple : mg "tuple" = none) {f_trimmed : Addr} {fd_trimmed : FuncData} (F_trimmed : Fun K "trimmed" "trimmed" s_trimmed f_trimmed fd_trimmed) (g_trimmed : mg "trimmed" = some (.ref f_trimmed)) (W_trimmed : FnG P w K mg base CX0 2 f_trimmed fd_trimmed ["part", "many", "values"] (spU K T false 3 (pure1 G_trimmed))) {f_filled : Addr} {fd_filled : FuncData} (F_filled : Fun K "filled" "filled" s_filled f_filled fd_filled) (g_filled : mg "filled" = some (.ref f_filled)) (W_filled : FnG P w K mg base CX0 2 f_filled fd_filled ["part", "values", "many"] (spU K T false 3 (pure1 G_filled))) {f_plus_value : Addr} {fd_plus_value : FuncData} (F_plus_value : Fun K "plus_value" "plus_value" s_plus_value f_plus_value fd_plus_value) (g_plus_value : mg "plus_value" = some (.ref f_plus_value)) (W_plus_value : FnG P w K mg base CX0 1 f_plus_value fd_plus_value ["part", "one", "other"] (spU K T false 3 (pure1 G_plus_value))) : FnG P w K mg base CX0 3 f fd ["group", "one", "other"] (spU K T false 3 (fFn false 12 m_plus_in)) := by
  have b_trimmed : Binds K fd_trimmed ["part", "many", "values"] [] := F_trimmed.binds fun _ _ _ _ _ _ us hl => match us, hl with | [_, _, _], _ => rfl
  have b_filled : Binds K fd_filled ["part", "values", "many"] [] := F_filled.binds fun _ _ _ _ _ _ us hl => match us, hl with | [_, _, _], _ => rfl
  have b_plus_value : Binds K fd_plus_value ["part", "one", "other"] [] := F_plus_value.binds fun _ _ _ _ _ _ us hl => match us, hl with | [_, _, _], _ => rfl
  refine fn_data T false F sc_plus_in [3] rfl fun cdv A outer s H E hcd hr hN => ?_
  exact (sds_cons (sd_setOwn 3 (pf_lst pad_nil) (hlen := by show 3 < 12; decide)) (sds_cons (sd_for (pid_zip3 (pad_cons (pd_var 0) (pad_cons (pd_var 1) (pad_cons (pd_var 2) pad_nil))) g_zip) (pgd_tup (pgsd_cons (pgd_tup (pgsd_cons (pgd_name 8) (pgsd_cons (pgd_name 9) pgsd_nil))) (pgsd_cons (pgd_name 4) (pgsd_cons (pgd_name 5) pgsd_nil)))) (sds_cons (sd_set 6 (pd_callB (call_max2 rfl) ca_max2 g_max rfl (pab_cons (PD.toB (pd_callB cr_lenD ca_len g_len rfl (pab_cons (PD.toB (pd_var 4)) pab_nil))) (pab_cons (PD.toB (pd_callB cr_lenD ca_len g_len rfl (pab_cons (PD.toB (pd_var 5)) pab_nil))) pab_nil)))) (sds_zipApp (cv := [("left", 10), ("right", 11)]) 7 3 8 9 (pad_cons (pd_user W_filled (hr.mono (by decide)) g_filled F_filled.kp b_filled (pad_cons (pd_var 8) (pad_cons (pd_var 4) (pad_cons (pd_var 6) pad_nil))) (al_cons (al_cons (al_cons al_nil)))) (pad_cons (pd_user W_filled (hr.mono (by decide)) g_filled F_filled.kp b_filled (pad_cons (pd_var 8) (pad_cons (pd_var 5) (pad_cons (pd_var 6) pad_nil))) (al_cons (al_cons (al_cons al_nil)))) pad_nil)) g_zip W_trimmed (hr.mono (by decide)) g_trimmed F_trimmed.kp b_trimmed (blkOk_by (by rfl)) (fun s H C cl fp => (pgd_tup (pgsd_cons (pgd_name 10) (pgsd_cons (pgd_name 11) pgsd_nil)))) (fun s H C cl fp => ptsd_nil) (fun s H C cl fp => (pd_user W_plus_value (hr.mono (by decide)) g_plus_value F_plus_value.kp b_plus_value (pad_cons (pd_var 8) (pad_cons (pd_var 10) (pad_cons (pd_var 11) pad_nil))) (al_cons (al_cons (al_cons al_nil))))) (hv := by rfl) (hlp := by show 7 < 12; decide)))) (sds_one (sd_ret (PD.toB (pd_callTy call_tupF ca_tuple g_tuple rfl (pab_cons (pb_own 3) pab_nil)))))))
def G_plus_in : List D → Option D := fun ds => (fFn false 12 m_plus_in ds (0, 0, 0)).map (·.1)
theorem sc_times_in : FnScope ["group", "many", "element", "found", "values", "part", "often", "value"] ["group", "many", "element"] (defScope s_times_in) := ⟨rfl, rfl, rfl, by decide +kernel, rfl, by decide +kernel, by decide +kernel⟩
def m_times_in : FS := fSeq (fSet 3 (fLst (fNil))) (fSeq (fFor (fRng dZip (fCons (fVar 0) (fCons (fVar 2) (fNil)))) (sTup (sCons (sTup (sCons (sName 5) (sCons (sName 6) (sNil)))) (sCons (sName 4) (sNil)))) (fApp 3 (fUs (pure1 G_trimmed) (fCons (fVar 5) (fCons (fVar 6) (fCons (fLc (fSeqI (fVar 4)) (sName 7) (fYes) (fUs (pure1 G_times_value) (fCons (fVar 5) (fCons (fVar 1) (fCons (fVar 7) (fNil))))) [7]) (fNil))))))) (fRet (fCall dTuple (fCons (fVar 3) (fNil)))))
theorem w_times_in (F : Fun K "times_in" "times_in" s_times_in f fd) (g_zip : mg "zip" = none) (g_tuple : mg "tuple" = none) {f_trimmed : Addr} {fd_trimmed : FuncData} (F_trimmed : Fun K "trimmed" "trimmed" s_trimmed f_trimmed fd_trimmed) (g_trimmed : mg "trimmed" = some (.ref f_trimmed)) (W_trimmed : FnG P w K mg base CX0 2 f_trimmed fd_trimmed ["part", "many", "values"] (spU K T false 3 (pure1 G_trimmed))) {f_times_value : Addr} {fd_times_value : FuncData} (F_times_value : Fun K "times_value" "times_value" s_times_value f_times_value fd_times_value) (g_times_value : mg "times_value" = some (.ref f_times_value)) (W_times_value : FnG P w K mg base CX0 1 f_times_value fd_times_value ["part", "many", "value"] (spU K T false 3 (pure1 G_times_value))) : FnG P w K mg base CX0 3 f fd ["group", "many", "element"] (spU K T false 3 (fFn false 8 m_times_in)) := by
  have b_trimmed : Binds K fd_trimmed ["part", "many", "values"] [] := F_trimmed.binds fun _ _ _ _ _ _ us hl => match us, hl with | [_, _, _], _ => rfl
  have b_times_value : Binds K fd_times_value ["part", "many", "value"] [] := F_times_value.binds fun _ _ _ _ _ _ us hl => match us, hl with | [_, _, _], _ => rfl
  refine fn_data T false F sc_times_in [3] rfl fun cdv A outer s H E hcd hr hN => ?_
  exact (sds_cons (sd_setOwn 3 (pf_lst pad_nil) (hlen := by show 3 < 8; decide)) (sds_cons (sd_for (pid_zip (pad_cons (pd_var 0) (pad_cons (pd_var 2) pad_nil)) g_zip) (pgd_tup (pgsd_cons (pgd_tup (pgsd_cons (pgd_name 5) (pgsd_cons (pgd_name 6) pgsd_nil))) (pgsd_cons (pgd_name 4) pgsd_nil))) (sds_one (sd_append 3 (pd_user W_trimmed (hr.mono (by decide)) g_trimmed F_trimmed.kp b_trimmed (pad_cons (pd_var 5) (pad_cons (pd_var 6) (pad_cons (PF.toD (pf_lc (cv := [("value", 7)]) (b := true) (pid_seq (pd_var 4)) (blkOk_by (by rfl)) (fun s H C cl fp => (pgd_name 7)) (fun s H C cl fp => ptsd_nil) (fun s H C cl fp => (pd_user W_times_value (hr.mono (by decide)) g_times_value F_times_value.kp b_times_value (pad_cons (pd_var 5) (pad_cons (pd_var 1) (pad_cons (pd_var 7) pad_nil))) (al_cons (al_cons (al_cons al_nil))))) (hv := by rfl)) nd_lc) pad_nil))) (al_cons (al_cons (al_cons al_nil))))))) (sds_one (sd_ret (PD.toB (pd_callTy call_tupF ca_tuple g_tuple rfl (pab_cons (pb_own 3) pab_nil)))))))
def G_times_in : List D → Option D := fun ds => (fFn false 8 m_times_in ds (0, 0, 0)).map (·.1)
theorem sc_divided_in : FnScope ["group", "d", "element", "found", "values", "told", "part", "many", "value"] ["group", "d", "element"] (defScope s_divided_in) := ⟨rfl, rfl, rfl, by decide +kernel, rfl, by decide +kernel, by decide +kernel⟩
def m_divided_in : FS := fSeq (fSet 3 (fLst (fNil))) (fSeq (fFor (fRng dZip (fCons (fVar 0) (fCons (fVar 2) (fNil)))) (sTup (sCons (sTup (sCons (sName 6) (sCons (sName 7) (sNil)))) (sCons (sName 4) (sNil)))) (fSeq (fSet 5 (fLc (fSeqI (fVar 4)) (sName 8) (fYes) (fUs (pure1 G_divided_value) (fCons (fVar 6) (fCons (fVar 1) (fCons (fVar 8) (fNil))))) [8])) (fSeq (fIfS (fTst (fB2 dIn (fC .none) (fVar 5))) (fRet (fC .none)) (fNx)) (fApp 3 (fUsB G_trimmed (fCons (fVar 6) (fCons (fVar 7) (fCons (fVar 5) (fNil))))))))) (fRet (fCall dTuple (fCons (fVar 3) (fNil)))))
theorem w_divided_in (F : Fun K "divided_in" "divided_in" s_divided_in f fd) (g_zip : mg "zip" = none) (g_tuple : mg "tuple" = none) {f_divided_value : Addr} {fd_divided_value : FuncData} (F_divided_value : Fun K "divided_value" "divided_value" s_divided_value f_divided_value fd_divided_value) (g_divided_value : mg "divided_value" = some (.ref f_divided_value)) (W_divided_value : FnG P w K mg base CX0 1 f_divided_value fd_divided_value ["part", "d", "value"] (spU K T false 3 (pure1 G_divided_value))) {f_trimmed : Addr} {fd_trimmed : FuncData} (F_trimmed : Fun K "trimmed" "trimmed" s_trimmed f_trimmed fd_trimmed) (g_trimmed : mg "trimmed" = some (.ref f_trimmed)) (W_trimmed : FnG P w K mg base CX0 2 f_trimmed fd_trimmed ["part", "many", "values"] (spU K T false 3 (pure1 G_trimmed))) : FnG P w K mg base CX0 3 f fd ["group", "d", "element"] (spU K T false 3 (fFn false 9 m_divided_in)) := by
  have b_divided_value : Binds K fd_divided_value ["part", "d", "value"] [] := F_divided_value.binds fun _ _ _ _ _ _ us hl => match us, hl with | [_, _, _], _ => rfl
  have b_trimmed : Binds K fd_trimmed ["part", "many", "values"] [] := F_trimmed.binds fun _ _ _ _ _ _ us hl => match us, hl with | [_, _, _], _ => rfl
  refine fn_data T false F sc_divided_in [3, 5] rfl fun cdv A outer s H E hcd hr hN => ?_
  exact (sds_cons (sd_setOwn 3 (pf_lst pad_nil) (hlen := by show 3 < 9; decide)) (sds_cons (sd_for (pid_zip (pad_cons (pd_var 0) (pad_cons (pd_var 2) pad_nil)) g_zip) (pgd_tup (pgsd_cons (pgd_tup (pgsd_cons (pgd_name 6) (pgsd_cons (pgd_name 7) pgsd_nil))) (pgsd_cons (pgd_name 4) pgsd_nil))) (sds_cons (sd_setLc (cv := [("value", 8)]) (b := true) 5 (pid_seq (pd_var 4)) (blkOk_by (by rfl)) (fun s H C cl fp => (pgd_name 8)) (fun s H C cl fp => ptsd_nil) (fun s H C cl fp => (pd_user W_divided_value (hr.mono (by decide)) g_divided_value F_divided_value.kp b_divided_value (pad_cons (pd_var 6) (pad_cons (pd_var 1) (pad_cons (pd_var 8) pad_nil))) (al_cons (al_cons (al_cons al_nil))))) (by show 5 < 9; decide) (hv := by rfl)) (sds_cons (sd_if (ptd_cmp (op_in_seq) bn_in (PD.toB pd_non) (pb_own 5)) (sds_one (sd_ret (PD.toB pd_non))) sds_nil) (sds_one (sd_append 3 (pd_userB W_trimmed (hr.mono (by decide)) g_trimmed F_trimmed.kp b_trimmed (pab_cons (PD.toB (pd_var 6)) (pab_cons (PD.toB (pd_var 7)) (pab_cons (pb_own 5) pab_nil))) (al_cons (al_cons (al_cons al_nil))))))))) (sds_one (sd_ret (PD.toB (pd_callTy call_tupF ca_tuple g_tuple rfl (pab_cons (pb_own 3) pab_nil)))))))
def G_divided_in : List D → Option D := fun ds => (fFn false 9 m_divided_in ds (0, 0, 0)).map (·.1)
theorem sc_sum_in : FnScope ["group", "numbers", "points", "found", "many", "element"] ["group", "numbers", "points"] (defScope s_sum_in) := ⟨rfl, rfl, rfl, by decide +kernel, rfl, by decide +kernel, by decide +kernel⟩
def m_sum_in : FS := fSeq (fSet 3 (fUs (pure1 G_zero_in) (fCons (fVar 0) (fNil)))) (fSeq (fFor (fRng dZip (fCons (fVar 1) (fCons (fVar 2) (fNil)))) (sTup (sCons (sName 4) (sCons (sName 5) (sNil)))) (fSet 3 (fUs (pure1 G_plus_in) (fCons (fVar 0) (fCons (fVar 3) (fCons (fUs (pure1 G_times_in) (fCons (fVar 0) (fCons (fVar 4) (fCons (fVar 5) (fNil))))) (fNil))))))) (fRet (fVar 3)))
theorem w_sum_in (F : Fun K "sum_in" "sum_in" s_sum_in f fd) (g_zip : mg "zip" = none) {f_zero_in : Addr} {fd_zero_in : FuncData} (F_zero_in : Fun K "zero_in" "zero_in" s_zero_in f_zero_in fd_zero_in) (g_zero_in : mg "zero_in" = some (.ref f_zero_in)) (W_zero_in : FnG P w K mg base CX0 2 f_zero_in fd_zero_in ["group"] (spU K T false 1 (pure1 G_zero_in))) {f_plus_in : Addr} {fd_plus_in : FuncData} (F_plus_in : Fun K "plus_in" "plus_in" s_plus_in f_plus_in fd_plus_in) (g_plus_in : mg "plus_in" = some (.ref f_plus_in)) (W_plus_in : FnG P w K mg base CX0 3 f_plus_in fd_plus_in ["group", "one", "other"] (spU K T false 3 (pure1 G_plus_in))) {f_times_in : Addr} {fd_times_in : FuncData} (F_times_in : Fun K "times_in" "times_in" s_times_in f_times_in fd_times_in) (g_times_in : mg "times_in" = some (.ref f_times_in)) (W_times_in : FnG P w K mg base CX0 3 f_times_in fd_times_in ["group", "many", "element"] (spU K T false 3 (pure1 G_times_in))) : FnG P w K mg base CX0 4 f fd ["group", "numbers", "points"] (spU K T false 3 (fFn false 6 m_sum_in)) := by
  have b_zero_in : Binds K fd_zero_in ["group"] [] := F_zero_in.binds fun _ _ _ _ _ _ us hl => match us, hl with | [_], _ => rfl
  have b_plus_in : Binds K fd_plus_in ["group", "one", "other"] [] := F_plus_in.binds fun _ _ _ _ _ _ us hl => match us, hl with | [_, _, _], _ => rfl
  have b_times_in : Binds K fd_times_in ["group", "many", "element"] [] := F_times_in.binds fun _ _ _ _ _ _ us hl => match us, hl with | [_, _, _], _ => rfl
  refine fn_data T false F sc_sum_in [] rfl fun cdv A outer s H E hcd hr hN => ?_
  exact (sds_cons (sd_set 3 (pd_user W_zero_in (hr.mono (by decide)) g_zero_in F_zero_in.kp b_zero_in (pad_cons (pd_var 0) pad_nil) (al_cons al_nil))) (sds_cons (sd_for (pid_zip (pad_cons (pd_var 1) (pad_cons (pd_var 2) pad_nil)) g_zip) (pgd_tup (pgsd_cons (pgd_name 4) (pgsd_cons (pgd_name 5) pgsd_nil))) (sds_one (sd_set 3 (pd_user W_plus_in (hr.mono (by decide)) g_plus_in F_plus_in.kp b_plus_in (pad_cons (pd_var 0) (pad_cons (pd_var 3) (pad_cons (pd_user W_times_in (hr.mono (by decide)) g_times_in F_times_in.kp b_times_in (pad_cons (pd_var 0) (pad_cons (pd_var 4) (pad_cons (pd_var 5) pad_nil))) (al_cons (al_cons (al_cons al_nil)))) pad_nil))) (al_cons (al_cons (al_cons al_nil))))))) (sds_one (sd_ret (PD.toB (pd_var 3))))))
def G_sum_in : List D → Option D := fun ds => (fFn false 6 m_sum_in ds (0, 0, 0)).map (·.1)
theorem sc_is_row_in : FnScope ["n", "value"] ["n", "value"] (defScope s_is_row_in) := ⟨rfl, rfl, rfl, by decide +kernel, rfl, by decide +kernel, by decide +kernel⟩
def m_is_row_in : FS := fRet (fVal (fAnd (fTst (fU1 (dIsi "tuple") (fVar 1))) (fTst (fVal (fAnd (fTst (fB2 dEq (fCall dLen (fCons (fVar 1) (fNil))) (fC (.int 2)))) (fTst (fVal (fAnd (fTst (fUs (pure1 G_is_natural) (fCons (fB2 dIx (fVar 1) (fC (.int 0))) (fNil)))) (fTst (fUs (pure1 G_are_integers) (fCons (fB2 dIx (fVar 1) (fC (.int 1))) (fCons (fVar 0) (fNil)))))))))))))
theorem w_is_row_in (F : Fun K "is_row_in" "is_row_in" s_is_row_in f fd) (g_isinstance : mg "isinstance" = none) (g_tuple : mg "tuple" = none) (g_len : mg "len" = none) {f_is_natural : Addr} {fd_is_natural : FuncData} (F_is_natural : Fun K "is_natural" "is_natural" s_is_natural f_is_natural fd_is_natural) (g_is_natural : mg "is_natural" = some (.ref f_is_natural)) (W_is_natural : FnG P w K mg base CX0 2 f_is_natural fd_is_natural ["value"] (spU K T false 1 (pure1 G_is_natural))) {f_are_integers : Addr} {fd_are_integers : FuncData} (F_are_integers : Fun K "are_integers" "are_integers" s_are_integers f_are_integers fd_are_integers) (g_are_integers : mg "are_integers" = some (.ref f_are_integers)) (W_are_integers : FnG P w K mg base CX0 5 f_are_integers fd_are_integers ["value", "size"] (spU K T false 2 (pure1 G_are_integers))) : FnG P w K mg base CX0 6 f fd ["n", "value"] (spU K T false 2 (fFn false 2 m_is_row_in)) := by
  have b_is_natural : Binds K fd_is_natural ["value"] [] := F_is_natural.binds fun _ _ _ _ _ _ us hl => match us, hl with | [_], _ => rfl
  have b_are_integers : Binds K fd_are_integers ["value", "size"] [] := F_are_integers.binds fun _ _ _ _ _ _ us hl => match us, hl with | [_, _], _ => rfl
  refine fn_data T false F sc_is_row_in [] rfl fun cdv A outer s H E hcd hr hN => ?_
  exact (sds_one (sd_ret (PD.toB (pd_and (pd_isi g_tuple rfl g_isinstance (PD.toB (pd_var 1))) (pd_and (pd_cmp (op_eqD hr.u64) bn_eq (PD.toB (pd_callB cr_lenD ca_len g_len rfl (pab_cons (PD.toB (pd_var 1)) pab_nil))) (PD.toB pd_int)) (pd_and (pd_user W_is_natural (hr.mono (by decide)) g_is_natural F_is_natural.kp b_is_natural (pad_cons (pd_ix (PD.toB (pd_var 1)) (PD.toB pd_int)) pad_nil) (al_cons al_nil)) (pd_one (pd_user W_are_integers (hr.mono (by decide)) g_are_integers F_are_integers.kp b_are_integers (pad_cons (pd_ix (PD.toB (pd_var 1)) (PD.toB pd_int)) (pad_cons (pd_var 0) pad_nil)) (al_cons (al_cons al_nil))))))))))
def G_is_row_in : List D → Option D := fun ds => (fFn false 2 m_is_row_in ds (0, 0, 0)).map (·.1)
theorem sc_is_lot_in : FnScope ["n", "value", "row"] ["n", "value"] (defScope s_is_lot_in) := ⟨rfl, rfl, rfl, by decide +kernel, rfl, by decide +kernel, by decide +kernel⟩
def m_is_lot_in : FS := fRet (fVal (fAnd (fTst (fU1 (dIsi "tuple") (fVar 1))) (fTst (fQ false (fSeqI (fVar 1)) (sName 2) (fUs (pure1 G_is_row_in) (fCons (fVar 0) (fCons (fVar 2) (fNil)))) [2]))))
theorem w_is_lot_in (F : Fun K "is_lot_in" "is_lot_in" s_is_lot_in f fd) (g_isinstance : mg "isinstance" = none) (g_tuple : mg "tuple" = none) (g_all : mg "all" = none) {cA tA : Addr} (hco : fd.code = .ref cA) (TB : GxR.TabB base mg cA tA) (tT : T tA) {f_is_row_in : Addr} {fd_is_row_in : FuncData} (F_is_row_in : Fun K "is_row_in" "is_row_in" s_is_row_in f_is_row_in fd_is_row_in) (g_is_row_in : mg "is_row_in" = some (.ref f_is_row_in)) (W_is_row_in : FnG P w K mg base CX0 6 f_is_row_in fd_is_row_in ["n", "value"] (spU K T false 2 (pure1 G_is_row_in))) : FnG P w K mg base CX0 10 f fd ["n", "value"] (spU K T false 2 (fFn false 3 m_is_lot_in)) := by
  have b_is_row_in : Binds K fd_is_row_in ["n", "value"] [] := F_is_row_in.binds fun _ _ _ _ _ _ us hl => match us, hl with | [_, _], _ => rfl
  refine fn_data T false F sc_is_lot_in [] rfl fun cdv A outer s H E hcd hr hN => ?_
  have hr1 := fun env => (roomG_in2 hr).deeper env
  exact (sds_one (sd_ret (PD.toB (pd_and (pd_isi g_tuple rfl g_isinstance (PD.toB (pd_var 1))) (pd_one (pd_allQ (cv := [("row", 2)]) hr g_all TB (hcd.symm.trans hco) tT (pid_seq (pd_var 1)) (genOk_by (by rfl)) (fun s H ce fp pn e => (pgd_name 2 (hx := by show Loc ce.scope _; rw [e]; exact Or.inl rfl) (hf := by right; show ce.scope.names.lookup _ = _; rw [e]; rfl))) (fun s H code fp pn C => (pd_user W_is_row_in ((hr1 _).mono (by decide)) g_is_row_in F_is_row_in.kp b_is_row_in (pad_cons (pd_var 0) (pad_cons (pd_var 2) pad_nil)) (al_cons (al_cons al_nil)))) (hv := by rfl)))))))
def G_is_lot_in : List D → Option D := fun ds => (fFn false 3 m_is_lot_in ds (0, 0, 0)).map (·.1)
theorem sc_check_lot : FnScope ["n", "lot"] ["n", "lot"] (defScope s_check_lot) := ⟨rfl, rfl, rfl, by decide +kernel, rfl, by decide +kernel, by decide +kernel⟩
def m_check_lot : FS := fIfS (fNot (fTst (fUs (pure1 G_is_lot_in) (fCons (fVar 0) (fCons (fVar 1) (fNil)))))) (fNo) (fNx)
theorem w_check_lot (F : Fun K "check_lot" "check_lot" s_check_lot f fd) {f_is_lot_in : Addr} {fd_is_lot_in : FuncData} (F_is_lot_in : Fun K "is_lot_in" "is_lot_in" s_is_lot_in f_is_lot_in fd_is_lot_in) (g_is_lot_in : mg "is_lot_in" = some (.ref f_is_lot_in)) (W_is_lot_in : FnG P w K mg base CX0 10 f_is_lot_in fd_is_lot_in ["n", "value"] (spU K T false 2 (pure1 G_is_lot_in))) : FnG P w K mg base CX0 11 f fd ["n", "lot"] (spU K T false 2 (fFn false 2 m_check_lot)) := by
  have b_is_lot_in : Binds K fd_is_lot_in ["n", "value"] [] := F_is_lot_in.binds fun _ _ _ _ _ _ us hl => match us, hl with | [_, _], _ => rfl
  refine fn_data T false F sc_check_lot [] rfl fun cdv A outer s H E hcd hr hN => ?_
  exact (sds_one (sd_if (ptd_not (ptd_val (pd_user W_is_lot_in (hr.mono (by decide)) g_is_lot_in F_is_lot_in.kp b_is_lot_in (pad_cons (pd_var 0) (pad_cons (pd_var 1) pad_nil)) (al_cons (al_cons al_nil))))) (sds_one sd_no) sds_nil))
def G_check_lot : List D → Option D := fun ds => (fFn false 2 m_check_lot ds (0, 0, 0)).map (·.1)
theorem sc_raised : FnScope ["p", "many", "found", "_"] ["p", "many"] (defScope s_raised) := ⟨rfl, rfl, rfl, by decide +kernel, rfl, by decide +kernel, by decide +kernel⟩
def m_raised : FS := fSeq (fSet 2 (fC (.int 1))) (fSeq (fFor (fRng dRange1 (fCons (fVar 1) (fNil))) (sName 3) (fSet 2 (fB2 dMulI (fVar 2) (fVar 0)))) (fRet (fVar 2)))
theorem w_raised (F : Fun K "raised" "raised" s_raised f fd) (g_range : mg "range" = none) : FnG P w K mg base CX0 1 f fd ["p", "many"] (spU K T false 2 (fFn false 4 m_raised)) := by
  refine fn_data T false F sc_raised [] rfl fun cdv A outer s H E hcd hr hN => ?_
  exact (sds_cons (sd_set 2 pd_int) (sds_cons (sd_for (pid_range1 (pab_cons (PD.toB (pd_var 1)) pab_nil) g_range) (pgd_name 3) (sds_one (sd_set 2 (pd_op op_mulW bn_mul (PD.toB (pd_var 2)) (PD.toB (pd_var 0)))))) (sds_one (sd_ret (PD.toB (pd_var 2))))))
def G_raised : List D → Option D := fun ds => (fFn false 4 m_raised ds (0, 0, 0)).map (·.1)
theorem sc_holds_in : FnScope ["group", "lot", "points", "d", "numbers"] ["group", "lot", "points"] (defScope s_holds_in) := ⟨rfl, rfl, rfl, by decide +kernel, rfl, by decide +kernel, by decide +kernel⟩
def m_holds_in : FS := fRet (fQ false (fSeqI (fVar 1)) (sTup (sCons (sName 3) (sCons (sName 4) (sNil)))) (fB2 dNotN (fUs (pure1 G_divided_in) (fCons (fVar 0) (fCons (fVar 3) (fCons (fUs (pure1 G_sum_in) (fCons (fVar 0) (fCons (fVar 4) (fCons (fVar 2) (fNil))))) (fNil))))) (fC .none)) [3, 4])
theorem w_holds_in (F : Fun K "holds_in" "holds_in" s_holds_in f fd) (g_all : mg "all" = none) {cA tA : Addr} (hco : fd.code = .ref cA) (TB : GxR.TabB base mg cA tA) (tT : T tA) {f_divided_in : Addr} {fd_divided_in : FuncData} (F_divided_in : Fun K "divided_in" "divided_in" s_divided_in f_divided_in fd_divided_in) (g_divided_in : mg "divided_in" = some (.ref f_divided_in)) (W_divided_in : FnG P w K mg base CX0 3 f_divided_in fd_divided_in ["group", "d", "element"] (spU K T false 3 (pure1 G_divided_in))) {f_sum_in : Addr} {fd_sum_in : FuncData} (F_sum_in : Fun K "sum_in" "sum_in" s_sum_in f_sum_in fd_sum_in) (g_sum_in : mg "sum_in" = some (.ref f_sum_in)) (W_sum_in : FnG P w K mg base CX0 4 f_sum_in fd_sum_in ["group", "numbers", "points"] (spU K T false 3 (pure1 G_sum_in))) : FnG P w K mg base CX0 8 f fd ["group", "lot", "points"] (spU K T false 3 (fFn false 5 m_holds_in)) := by
  have b_divided_in : Binds K fd_divided_in ["group", "d", "element"] [] := F_divided_in.binds fun _ _ _ _ _ _ us hl => match us, hl with | [_, _, _], _ => rfl
  have b_sum_in : Binds K fd_sum_in ["group", "numbers", "points"] [] := F_sum_in.binds fun _ _ _ _ _ _ us hl => match us, hl with | [_, _, _], _ => rfl
  refine fn_data T false F sc_holds_in [] rfl fun cdv A outer s H E hcd hr hN => ?_
  have hr1 := fun env => (roomG_in2 hr).deeper env
  exact (sds_one (sd_ret (PD.toB (pd_allQ (cv := [("d", 3), ("numbers", 4)]) hr g_all TB (hcd.symm.trans hco) tT (pid_seq (pd_var 1)) (genOk_by (by rfl)) (fun s H ce fp pn e => (pgd_tup (pgsd_cons (pgd_name 3 (hx := by show Loc ce.scope _; rw [e]; exact Or.inl rfl) (hf := by right; show ce.scope.names.lookup _ = _; rw [e]; rfl)) (pgsd_cons (pgd_name 4 (hx := by show Loc ce.scope _; rw [e]; exact Or.inl rfl) (hf := by right; show ce.scope.names.lookup _ = _; rw [e]; rfl)) pgsd_nil)))) (fun s H code fp pn C => (pd_cmp (op_notN) bn_notN (PD.toB (pd_user W_divided_in ((hr1 _).mono (by decide)) g_divided_in F_divided_in.kp b_divided_in (pad_cons (pd_var 0) (pad_cons (pd_var 3) (pad_cons (pd_user W_sum_in ((hr1 _).mono (by decide)) g_sum_in F_sum_in.kp b_sum_in (pad_cons (pd_var 0) (pad_cons (pd_var 4) (pad_cons (pd_var 2) pad_nil))) (al_cons (al_cons (al_cons al_nil)))) pad_nil))) (al_cons (al_cons (al_cons al_nil))))) (PD.toB pd_non))) (hv := by rfl)))))
def G_holds_in : List D → Option D := fun ds => (fFn false 5 m_holds_in ds (0, 0, 0)).map (·.1)
theorem sc_are_elements_in : FnScope ["group", "n", "value", "own"] ["group", "n", "value"] (defScope s_are_elements_in) := ⟨rfl, rfl, rfl, by decide +kernel, rfl, by decide +kernel, by decide +kernel⟩
def m_are_elements_in : FS := fRet (fVal (fAnd (fTst (fU1 (dIsi "tuple") (fVar 2))) (fTst (fVal (fAnd (fTst (fB2 dEq (fCall dLen (fCons (fVar 2) (fNil))) (fVar 1))) (fTst (fQ false (fSeqI (fVar 2)) (sName 3) (fUs (pure1 G_is_element_in) (fCons (fVar 0) (fCons (fVar 3) (fNil)))) [3])))))))
theorem w_are_elements_in (F : Fun K "are_elements_in" "are_elements_in" s_are_elements_in f fd) (g_isinstance : mg "isinstance" = none) (g_tuple : mg "tuple" = none) (g_len : mg "len" = none) (g_all : mg "all" = none) {cA tA : Addr} (hco : fd.code = .ref cA) (TB : GxR.TabB base mg cA tA) (tT : T tA) {f_is_element_in : Addr} {fd_is_element_in : FuncData} (F_is_element_in : Fun K "is_element_in" "is_element_in" s_is_element_in f_is_element_in fd_is_element_in) (g_is_element_in : mg "is_element_in" = some (.ref f_is_element_in)) (W_is_element_in : FnG P w K mg base CX0 10 f_is_element_in fd_is_element_in ["group", "value"] (spU K T false 2 (pure1 G_is_element_in))) : FnG P w K mg base CX0 14 f fd ["group", "n", "value"] (spU K T false 3 (fFn false 4 m_are_elements_in)) := by
  have b_is_element_in : Binds K fd_is_element_in ["group", "value"] [] := F_is_element_in.binds fun _ _ _ _ _ _ us hl => match us, hl with | [_, _], _ => rfl
  refine fn_data T false F sc_are_elements_in [] rfl fun cdv A outer s H E hcd hr hN => ?_
  have hr1 := fun env => (roomG_in2 hr).deeper env
  exact (sds_one (sd_ret (PD.toB (pd_and (pd_isi g_tuple rfl g_isinstance (PD.toB (pd_var 2))) (pd_and (pd_cmp (op_eqD hr.u64) bn_eq (PD.toB (pd_callB cr_lenD ca_len g_len rfl (pab_cons (PD.toB (pd_var 2)) pab_nil))) (PD.toB (pd_var 1))) (pd_one (pd_allQ (cv := [("own", 3)]) hr g_all TB (hcd.symm.trans hco) tT (pid_seq (pd_var 2)) (genOk_by (by rfl)) (fun s H ce fp pn e => (pgd_name 3 (hx := by show Loc ce.scope _; rw [e]; exact Or.inl rfl) (hf := by right; show ce.scope.names.lookup _ = _; rw [e]; rfl))) (fun s H code fp pn C => (pd_user W_is_element_in ((hr1 _).mono (by decide)) g_is_element_in F_is_element_in.kp b_is_element_in (pad_cons (pd_var 0) (pad_cons (pd_var 3) pad_nil)) (al_cons (al_cons al_nil)))) (hv := by rfl))))))))
def G_are_elements_in : List D → Option D := fun ds => (fFn false 4 m_are_elements_in ds (0, 0, 0)).map (·.1)
theorem sc_lot_holds : FnScope ["group", "lot", "points"] ["group", "lot", "points"] (defScope s_lot_holds) := ⟨rfl, rfl, rfl, by decide +kernel, rfl, by decide +kernel, by decide +kernel⟩
def m_lot_holds : FS := fSeq (fDrop (fUs (pure1 G_check_group) (fCons (fVar 0) (fNil)))) (fSeq (fIfS (fOr (fNot (fTst (fU1 (dIsi "tuple") (fVar 2)))) (fTst (fB2 dGt (fCall dLen (fCons (fVar 2) (fNil))) (fC c_MOST_LETTERS)))) (fNo) (fNx)) (fSeq (fIfS (fNot (fTst (fUs (pure1 G_are_elements_in) (fCons (fVar 0) (fCons (fCall dLen (fCons (fVar 2) (fNil))) (fCons (fVar 2) (fNil))))))) (fNo) (fNx)) (fSeq (fDrop (fUs (pure1 G_check_lot) (fCons (fCall dLen (fCons (fVar 2) (fNil))) (fCons (fVar 1) (fNil))))) (fRet (fUs (pure1 G_holds_in) (fCons (fVar 0) (fCons (fVar 1) (fCons (fVar 2) (fNil)))))))))
theorem w_lot_holds (F : Fun K "lot_holds" "lot_holds" s_lot_holds f fd) (g_isinstance : mg "isinstance" = none) (g_tuple : mg "tuple" = none) (g_len : mg "len" = none) (k_MOST_LETTERS : KC K mg "MOST_LETTERS" c_MOST_LETTERS) {f_check_group : Addr} {fd_check_group : FuncData} (F_check_group : Fun K "check_group" "check_group" s_check_group f_check_group fd_check_group) (g_check_group : mg "check_group" = some (.ref f_check_group)) (W_check_group : FnG P w K mg base CX0 11 f_check_group fd_check_group ["group"] (spU K T false 1 (pure1 G_check_group))) {f_are_elements_in : Addr} {fd_are_elements_in : FuncData} (F_are_elements_in : Fun K "are_elements_in" "are_elements_in" s_are_elements_in f_are_elements_in fd_are_elements_in) (g_are_elements_in : mg "are_elements_in" = some (.ref f_are_elements_in)) (W_are_elements_in : FnG P w K mg base CX0 14 f_are_elements_in fd_are_elements_in ["group", "n", "value"] (spU K T false 3 (pure1 G_are_elements_in))) {f_check_lot : Addr} {fd_check_lot : FuncData} (F_check_lot : Fun K "check_lot" "check_lot" s_check_lot f_check_lot fd_check_lot) (g_check_lot : mg "check_lot" = some (.ref f_check_lot)) (W_check_lot : FnG P w K mg base CX0 11 f_check_lot fd_check_lot ["n", "lot"] (spU K T false 2 (pure1 G_check_lot))) {f_holds_in : Addr} {fd_holds_in : FuncData} (F_holds_in : Fun K "holds_in" "holds_in" s_holds_in f_holds_in fd_holds_in) (g_holds_in : mg "holds_in" = some (.ref f_holds_in)) (W_holds_in : FnG P w K mg base CX0 8 f_holds_in fd_holds_in ["group", "lot", "points"] (spU K T false 3 (pure1 G_holds_in))) : FnG P w K mg base CX0 15 f fd ["group", "lot", "points"] (spU K T false 3 (fFn false 3 m_lot_holds)) := by
  have b_check_group : Binds K fd_check_group ["group"] [] := F_check_group.binds fun _ _ _ _ _ _ us hl => match us, hl with | [_], _ => rfl
  have b_are_elements_in : Binds K fd_are_elements_in ["group", "n", "value"] [] := F_are_elements_in.binds fun _ _ _ _ _ _ us hl => match us, hl with | [_, _, _], _ => rfl
  have b_check_lot : Binds K fd_check_lot ["n", "lot"] [] := F_check_lot.binds fun _ _ _ _ _ _ us hl => match us, hl with | [_, _], _ => rfl
  have b_holds_in : Binds K fd_holds_in ["group", "lot", "points"] [] := F_holds_in.binds fun _ _ _ _ _ _ us hl => match us, hl with | [_, _, _], _ => rfl
  refine fn_data T false F sc_lot_holds [] rfl fun cdv A outer s H E hcd hr hN => ?_
  exact (sds_cons (sd_expr (PD.toB (pd_user W_check_group (hr.mono (by decide)) g_check_group F_check_group.kp b_check_group (pad_cons (pd_var 0) pad_nil) (al_cons al_nil)))) (sds_cons (sd_if (PWD.toT (pwd_or (ptd_not (ptd_val (pd_isi g_tuple rfl g_isinstance (PD.toB (pd_var 2))))) (pwd_or1 (ptd_cmp (op_gt) bn_gt (PD.toB (pd_callB cr_lenD ca_len g_len rfl (pab_cons (PD.toB (pd_var 2)) pab_nil))) (PD.toB (pd_kc k_MOST_LETTERS)))))) (sds_one sd_no) sds_nil) (sds_cons (sd_if (ptd_not (ptd_val (pd_user W_are_elements_in (hr.mono (by decide)) g_are_elements_in F_are_elements_in.kp b_are_elements_in (pad_cons (pd_var 0) (pad_cons (pd_callB cr_lenD ca_len g_len rfl (pab_cons (PD.toB (pd_var 2)) pab_nil)) (pad_cons (pd_var 2) pad_nil))) (al_cons (al_cons (al_cons al_nil)))))) (sds_one sd_no) sds_nil) (sds_cons (sd_expr (PD.toB (pd_user W_check_lot (hr.mono (by decide)) g_check_lot F_check_lot.kp b_check_lot (pad_cons (pd_callB cr_lenD ca_len g_len rfl (pab_cons (PD.toB (pd_var 2)) pab_nil)) (pad_cons (pd_var 1) pad_nil)) (al_cons (al_cons al_nil))))) (sds_one (sd_ret (PD.toB (pd_user W_holds_in (hr.mono (by decide)) g_holds_in F_holds_in.kp b_holds_in (pad_cons (pd_var 0) (pad_cons (pd_var 1) (pad_cons (pd_var 2) pad_nil))) (al_cons (al_cons (al_cons al_nil)))))))))))
def G_lot_holds : List D → Option D := fun ds => (fFn false 3 m_lot_holds ds (0, 0, 0)).map (·.1)
theorem sc_makes_zero : FnScope ["lot", "d", "numbers"] ["lot"] (defScope s_makes_zero) := ⟨rfl, rfl, rfl, by decide +kernel, rfl, by decide +kernel, by decide +kernel⟩
def m_makes_zero : FS := fRet (fQ true (fSeqI (fVar 0)) (sTup (sCons (sName 1) (sCons (sName 2) (sNil)))) (fVal (fAnd (fTst (fB2 dEq (fVar 1) (fC (.int 0)))) (fTst (fB2 dNe (fB2 dIx (fVar 2) (fC (.int 0))) (fC (.int 0)))))) [1, 2])
theorem w_makes_zero (F : Fun K "makes_zero" "makes_zero" s_makes_zero f fd) (g_any : mg "any" = none) {cA tA : Addr} (hco : fd.code = .ref cA) (TB : GxR.TabB base mg cA tA) (tT : T tA) : FnG P w K mg base CX0 4 f fd ["lot"] (spU K T false 1 (fFn false 3 m_makes_zero)) := by
  refine fn_data T false F sc_makes_zero [] rfl fun cdv A outer s H E hcd hr hN => ?_
  have hr1 := fun env => (roomG_in2 hr).deeper env
  exact (sds_one (sd_ret (PD.toB (pd_anyQ (cv := [("d", 1), ("numbers", 2)]) hr g_any TB (hcd.symm.trans hco) tT (pid_seq (pd_var 0)) (genOk_by (by rfl)) (fun s H ce fp pn e => (pgd_tup (pgsd_cons (pgd_name 1 (hx := by show Loc ce.scope _; rw [e]; exact Or.inl rfl) (hf := by right; show ce.scope.names.lookup _ = _; rw [e]; rfl)) (pgsd_cons (pgd_name 2 (hx := by show Loc ce.scope _; rw [e]; exact Or.inl rfl) (hf := by right; show ce.scope.names.lookup _ = _; rw [e]; rfl)) pgsd_nil)))) (fun s H code fp pn C => (pd_and (pd_cmp (op_eqD (hr1 _).u64) bn_eq (PD.toB (pd_var 1)) (PD.toB pd_int)) (pd_one (pd_cmp (op_neD (hr1 _).u64) bn_ne (PD.toB (pd_ix (PD.toB (pd_var 2)) (PD.toB pd_int))) (PD.toB pd_int))))) (hv := by rfl)))))
def G_makes_zero : List D → Option D := fun ds => (fFn false 3 m_makes_zero ds (0, 0, 0)).map (·.1)
theorem sc_multiple_in : FnScope ["lot", "found", "d", "numbers", "own"] ["lot"] (defScope s_multiple_in) := ⟨rfl, rfl, rfl, by decide +kernel, rfl, by decide +kernel, by decide +kernel⟩
def m_multiple_in : FS := fSeq (fIfS (fTst (fUs (pure1 G_makes_zero) (fCons (fVar 0) (fNil)))) (fRet (fC (.int 0))) (fNx)) (fSeq (fSet 1 (fC (.int 1))) (fSeq (fFor (fSeqI (fVar 0)) (sTup (sCons (sName 2) (sCons (sName 3) (sNil)))) (fSeq (fSet 4 (fIf (fTst (fB2 dGt (fVar 2) (fC (.int 0)))) (fB2 dDiv (fVar 2) (fCall dGcd (fCons (fVar 2) (fCons (fB2 dIx (fVar 3) (fC (.int 0))) (fNil))))) (fC (.int 1)))) (fSet 1 (fB2 dDiv (fB2 dMulI (fVar 1) (fVar 4)) (fCall dGcd (fCons (fVar 1) (fCons (fVar 4) (fNil)))))))) (fRet (fVar 1))))
theorem w_multiple_in (F : Fun K "multiple_in" "multiple_in" s_multiple_in f fd) (i_gcd : mg "gcd" = some (.builtin "math.gcd")) {f_makes_zero : Addr} {fd_makes_zero : FuncData} (F_makes_zero : Fun K "makes_zero" "makes_zero" s_makes_zero f_makes_zero fd_makes_zero) (g_makes_zero : mg "makes_zero" = some (.ref f_makes_zero)) (W_makes_zero : FnG P w K mg base CX0 4 f_makes_zero fd_makes_zero ["lot"] (spU K T false 1 (pure1 G_makes_zero))) : FnG P w K mg base CX0 5 f fd ["lot"] (spU K T false 1 (fFn false 5 m_multiple_in)) := by
  have b_makes_zero : Binds K fd_makes_zero ["lot"] [] := F_makes_zero.binds fun _ _ _ _ _ _ us hl => match us, hl with | [_], _ => rfl
  refine fn_data T false F sc_multiple_in [] rfl fun cdv A outer s H E hcd hr hN => ?_
  exact (sds_cons (sd_if (ptd_val (pd_user W_makes_zero (hr.mono (by decide)) g_makes_zero F_makes_zero.kp b_makes_zero (pad_cons (pd_var 0) pad_nil) (al_cons al_nil))) (sds_one (sd_ret (PD.toB pd_int))) sds_nil) (sds_cons (sd_set 1 pd_int) (sds_cons (sd_for (pid_seq (pd_var 0)) (pgd_tup (pgsd_cons (pgd_name 2) (pgsd_cons (pgd_name 3) pgsd_nil))) (sds_cons (sd_set 4 (pd_ifExp (ptd_cmp (op_gt) bn_gt (PD.toB (pd_var 2)) (PD.toB pd_int)) (pd_op op_fdivW bn_div (PD.toB (pd_var 2)) (PD.toB (pd_callFun cr_gcd ca_gcd i_gcd (pab_cons (PD.toB (pd_var 2)) (pab_cons (PD.toB (pd_ix (PD.toB (pd_var 3)) (PD.toB pd_int))) pab_nil))))) pd_int)) (sds_one (sd_set 1 (pd_op op_fdivW bn_div (PD.toB (pd_op op_mulW bn_mul (PD.toB (pd_var 1)) (PD.toB (pd_var 4)))) (PD.toB (pd_callFun cr_gcd ca_gcd i_gcd (pab_cons (PD.toB (pd_var 1)) (pab_cons (PD.toB (pd_var 4)) pab_nil))))))))) (sds_one (sd_ret (PD.toB (pd_var 1)))))))
def G_multiple_in : List D → Option D := fun ds => (fFn false 5 m_multiple_in ds (0, 0, 0)).map (·.1)
theorem sc_exponent_in : FnScope ["p", "lot", "most", "found", "d", "number", "wanted"] ["p", "lot", "most"] (defScope s_exponent_in) := ⟨rfl, rfl, rfl, by decide +kernel, rfl, by decide +kernel, by decide +kernel⟩
def m_exponent_in : FS := fSeq (fSet 3 (fC (.int 0))) (fSeq (fFor (fSeqI (fVar 1)) (sTup (sCons (sName 4) (sCons (sTup (sCons (sName 5) (sNil))) (sNil)))) (fIfS (fTst (fB2 dNe (fVar 5) (fC (.int 0)))) (fSeq (fSet 6 (fIf (fTst (fB2 dGt (fVar 4) (fC (.int 0)))) (fCall dMin2 (fCons (fVar 2) (fCons (fUs (pure1 G_exponent_of) (fCons (fVar 0) (fCons (fVar 4) (fNil)))) (fNil)))) (fVar 2))) (fSet 3 (fCall dMax2 (fCons (fVar 3) (fCons (fB2 dSub (fVar 6) (fUs (pure1 G_exponent_of) (fCons (fVar 0) (fCons (fVar 5) (fNil))))) (fNil)))))) (fNx))) (fRet (fVar 3)))
theorem w_exponent_in (F : Fun K "exponent_in" "exponent_in" s_exponent_in f fd) (g_min : mg "min" = none) (g_max : mg "max" = none) {f_exponent_of : Addr} {fd_exponent_of : FuncData} (F_exponent_of : Fun K "exponent_of" "exponent_of" s_exponent_of f_exponent_of fd_exponent_of) (g_exponent_of : mg "exponent_of" = some (.ref f_exponent_of)) (W_exponent_of : FnG P w K mg base CX0 1 f_exponent_of fd_exponent_of ["p", "number"] (spU K T false 2 (pure1 G_exponent_of))) : FnG P w K mg base CX0 2 f fd ["p", "lot", "most"] (spU K T false 3 (fFn false 7 m_exponent_in)) := by
  have b_exponent_of : Binds K fd_exponent_of ["p", "number"] [] := F_exponent_of.binds fun _ _ _ _ _ _ us hl => match us, hl with | [_, _], _ => rfl
  refine fn_data T false F sc_exponent_in [] rfl fun cdv A outer s H E hcd hr hN => ?_
  exact (sds_cons (sd_set 3 pd_int) (sds_cons (sd_for (pid_seq (pd_var 1)) (pgd_tup (pgsd_cons (pgd_name 4) (pgsd_cons (pgd_tup (pgsd_cons (pgd_name 5) pgsd_nil)) pgsd_nil))) (sds_one (sd_if (ptd_cmp (op_neD hr.u64) bn_ne (PD.toB (pd_var 5)) (PD.toB pd_int)) (sds_cons (sd_set 6 (pd_ifExp (ptd_cmp (op_gt) bn_gt (PD.toB (pd_var 4)) (PD.toB pd_int)) (pd_callB (call_min2 rfl) ca_min2 g_min rfl (pab_cons (PD.toB (pd_var 2)) (pab_cons (PD.toB (pd_user W_exponent_of (hr.mono (by decide)) g_exponent_of F_exponent_of.kp b_exponent_of (pad_cons (pd_var 0) (pad_cons (pd_var 4) pad_nil)) (al_cons (al_cons al_nil)))) pab_nil))) (pd_var 2))) (sds_one (sd_set 3 (pd_callB (call_max2 rfl) ca_max2 g_max rfl (pab_cons (PD.toB (pd_var 3)) (pab_cons (PD.toB (pd_op op_sub bn_sub (PD.toB (pd_var 6)) (PD.toB (pd_user W_exponent_of (hr.mono (by decide)) g_exponent_of F_exponent_of.kp b_exponent_of (pad_cons (pd_var 0) (pad_cons (pd_var 5) pad_nil)) (al_cons (al_cons al_nil)))))) pab_nil)))))) sds_nil))) (sds_one (sd_ret (PD.toB (pd_var 3))))))
def G_exponent_in : List D → Option D := fun ds => (fFn false 7 m_exponent_in ds (0, 0, 0)).map (·.1)
theorem sc_torsion_in : FnScope ["p", "lot", "d", "number"] ["p", "lot"] (defScope s_torsion_in) := ⟨rfl, rfl, rfl, by decide +kernel, rfl, by decide +kernel, by decide +kernel⟩
def m_torsion_in : FS := fRet (fCall dMinL (fCons (fLc (fSeqI (fVar 1)) (sTup (sCons (sName 2) (sCons (sTup (sCons (sName 3) (sNil))) (sNil)))) (fAnd (fTst (fB2 dEq (fVar 2) (fC (.int 0)))) (fTst (fB2 dNe (fVar 3) (fC (.int 0))))) (fUs (pure1 G_exponent_of) (fCons (fVar 0) (fCons (fVar 3) (fNil)))) [2, 3]) (fNil)))
theorem w_torsion_in (F : Fun K "torsion_in" "torsion_in" s_torsion_in f fd) (g_min : mg "min" = none) {f_exponent_of : Addr} {fd_exponent_of : FuncData} (F_exponent_of : Fun K "exponent_of" "exponent_of" s_exponent_of f_exponent_of fd_exponent_of) (g_exponent_of : mg "exponent_of" = some (.ref f_exponent_of)) (W_exponent_of : FnG P w K mg base CX0 1 f_exponent_of fd_exponent_of ["p", "number"] (spU K T false 2 (pure1 G_exponent_of))) : FnG P w K mg base CX0 2 f fd ["p", "lot"] (spU K T false 2 (fFn false 4 m_torsion_in)) := by
  have b_exponent_of : Binds K fd_exponent_of ["p", "number"] [] := F_exponent_of.binds fun _ _ _ _ _ _ us hl => match us, hl with | [_, _], _ => rfl
  refine fn_data T false F sc_torsion_in [] rfl fun cdv A outer s H E hcd hr hN => ?_
  exact (sds_one (sd_ret (PD.toB (pd_callB (cr_min rfl) ca_minL g_min rfl (pab_cons (PF.toB (pf_lc (cv := [("d", 2), ("number", 3)]) (b := true) (pid_seq (pd_var 1)) (blkOk_by (by rfl)) (fun s H C cl fp => (pgd_tup (pgsd_cons (pgd_name 2) (pgsd_cons (pgd_tup (pgsd_cons (pgd_name 3) pgsd_nil)) pgsd_nil)))) (fun s H C cl fp => (ptsd_one (PWD.toT (pwd_and (ptd_cmp (op_eqD hr.u64) bn_eq (PD.toB (pd_var 2)) (PD.toB pd_int)) (pwd_and1 (ptd_cmp (op_neD hr.u64) bn_ne (PD.toB (pd_var 3)) (PD.toB pd_int))))))) (fun s H C cl fp => (pd_user W_exponent_of (hr.mono (by decide)) g_exponent_of F_exponent_of.kp b_exponent_of (pad_cons (pd_var 0) (pad_cons (pd_var 3) pad_nil)) (al_cons (al_cons al_nil)))) (hv := by rfl))) pab_nil)))))
def G_torsion_in : List D → Option D := fun ds => (fFn false 4 m_torsion_in ds (0, 0, 0)).map (·.1)
theorem sc_greatest_exponent : FnScope ["p", "lot", "d", "_"] ["p", "lot"] (defScope s_greatest_exponent) := ⟨rfl, rfl, rfl, by decide +kernel, rfl, by decide +kernel, by decide +kernel⟩
def m_greatest_exponent : FS := fRet (fCall dMaxL (fCons (fB2 dCat (fLst (fCons (fC (.int 0)) (fNil))) (fLc (fSeqI (fVar 1)) (sTup (sCons (sName 2) (sCons (sName 3) (sNil)))) (fTst (fB2 dGt (fVar 2) (fC (.int 0)))) (fUs (pure1 G_exponent_of) (fCons (fVar 0) (fCons (fVar 2) (fNil)))) [2, 3])) (fNil)))
theorem w_greatest_exponent (F : Fun K "greatest_exponent" "greatest_exponent" s_greatest_exponent f fd) (g_max : mg "max" = none) {f_exponent_of : Addr} {fd_exponent_of : FuncData} (F_exponent_of : Fun K "exponent_of" "exponent_of" s_exponent_of f_exponent_of fd_exponent_of) (g_exponent_of : mg "exponent_of" = some (.ref f_exponent_of)) (W_exponent_of : FnG P w K mg base CX0 1 f_exponent_of fd_exponent_of ["p", "number"] (spU K T false 2 (pure1 G_exponent_of))) : FnG P w K mg base CX0 2 f fd ["p", "lot"] (spU K T false 2 (fFn false 4 m_greatest_exponent)) := by
  have b_exponent_of : Binds K fd_exponent_of ["p", "number"] [] := F_exponent_of.binds fun _ _ _ _ _ _ us hl => match us, hl with | [_, _], _ => rfl
  refine fn_data T false F sc_greatest_exponent [] rfl fun cdv A outer s H E hcd hr hN => ?_
  exact (sds_one (sd_ret (PD.toB (pd_callB (cr_max rfl) ca_maxL g_max rfl (pab_cons (PF.toB (pf_op op_cat bf_cat (PF.toB (pf_lst (pad_cons pd_int pad_nil))) (PF.toB (pf_lc (cv := [("d", 2), ("_", 3)]) (b := true) (pid_seq (pd_var 1)) (blkOk_by (by rfl)) (fun s H C cl fp => (pgd_tup (pgsd_cons (pgd_name 2) (pgsd_cons (pgd_name 3) pgsd_nil)))) (fun s H C cl fp => (ptsd_one (ptd_cmp (op_gt) bn_gt (PD.toB (pd_var 2)) (PD.toB pd_int)))) (fun s H C cl fp => (pd_user W_exponent_of (hr.mono (by decide)) g_exponent_of F_exponent_of.kp b_exponent_of (pad_cons (pd_var 0) (pad_cons (pd_var 2) pad_nil)) (al_cons (al_cons al_nil)))) (hv := by rfl))))) pab_nil)))))
def G_greatest_exponent : List D → Option D := fun ds => (fFn false 4 m_greatest_exponent ds (0, 0, 0)).map (·.1)
theorem sc_index_of_line : FnScope ["one", "both", "less", "more"] ["one", "both"] (defScope s_index_of_line) := ⟨rfl, rfl, rfl, by decide +kernel, rfl, by decide +kernel, by decide +kernel⟩
def m_index_of_line : FS := fSeq (fPar [2, 3] (fCons (fUs (pure1 G_multiple_in) (fCons (fVar 0) (fNil))) (fCons (fUs (pure1 G_multiple_in) (fCons (fVar 1) (fNil))) (fNil)))) (fSeq (fIfS (fTst (fB2 dEq (fVar 2) (fC (.int 0)))) (fRet (fC (.int 1))) (fNx)) (fRet (fIf (fTst (fB2 dGt (fVar 3) (fC (.int 0)))) (fB2 dDiv (fVar 3) (fVar 2)) (fC .none))))
theorem w_index_of_line (F : Fun K "index_of_line" "index_of_line" s_index_of_line f fd) {f_multiple_in : Addr} {fd_multiple_in : FuncData} (F_multiple_in : Fun K "multiple_in" "multiple_in" s_multiple_in f_multiple_in fd_multiple_in) (g_multiple_in : mg "multiple_in" = some (.ref f_multiple_in)) (W_multiple_in : FnG P w K mg base CX0 5 f_multiple_in fd_multiple_in ["lot"] (spU K T false 1 (pure1 G_multiple_in))) : FnG P w K mg base CX0 6 f fd ["one", "both"] (spU K T false 2 (fFn false 4 m_index_of_line)) := by
  have b_multiple_in : Binds K fd_multiple_in ["lot"] [] := F_multiple_in.binds fun _ _ _ _ _ _ us hl => match us, hl with | [_], _ => rfl
  refine fn_data T false F sc_index_of_line [] rfl fun cdv A outer s H E hcd hr hN => ?_
  exact (sds_cons (sd_par (pam_val (pd_user W_multiple_in (hr.mono (by decide)) g_multiple_in F_multiple_in.kp b_multiple_in (pad_cons (pd_var 0) pad_nil) (al_cons al_nil)) (pam_val (pd_user W_multiple_in (hr.mono (by decide)) g_multiple_in F_multiple_in.kp b_multiple_in (pad_cons (pd_var 1) pad_nil) (al_cons al_nil)) pam_nil)) 2 3) (sds_cons (sd_if (ptd_cmp (op_eqD hr.u64) bn_eq (PD.toB (pd_var 2)) (PD.toB pd_int)) (sds_one (sd_ret (PD.toB pd_int))) sds_nil) (sds_one (sd_ret (PD.toB (pd_ifExp (ptd_cmp (op_gt) bn_gt (PD.toB (pd_var 3)) (PD.toB pd_int)) (pd_op op_fdivW bn_div (PD.toB (pd_var 3)) (PD.toB (pd_var 2))) pd_non))))))
def G_index_of_line : List D → Option D := fun ds => (fFn false 4 m_index_of_line ds (0, 0, 0)).map (·.1)
theorem sc_index_of_part : FnScope ["part", "one", "both", "most"] ["part", "one", "both"] (defScope s_index_of_part) := ⟨rfl, rfl, rfl, by decide +kernel, rfl, by decide +kernel, by decide +kernel⟩
def m_index_of_part : FS := fSeq (fIfS (fTst (fB2 dEq (fB2 dIx (fVar 0) (fC (.int 0))) (fC (.str "line")))) (fRet (fUs (pure1 G_index_of_line) (fCons (fVar 1) (fCons (fVar 2) (fNil))))) (fNx)) (fSeq (fIfS (fTst (fB2 dEq (fB2 dIx (fVar 0) (fC (.int 0))) (fC (.str "ring")))) (fRet (fUs (pure1 G_raised) (fCons (fB2 dIx (fVar 0) (fC (.int 1))) (fCons (fB2 dSub (fUs (pure1 G_exponent_in) (fCons (fB2 dIx (fVar 0) (fC (.int 1))) (fCons (fVar 2) (fCons (fB2 dIx (fVar 0) (fC (.int 2))) (fNil))))) (fUs (pure1 G_exponent_in) (fCons (fB2 dIx (fVar 0) (fC (.int 1))) (fCons (fVar 1) (fCons (fB2 dIx (fVar 0) (fC (.int 2))) (fNil)))))) (fNil))))) (fNx)) (fSeq (fIfS (fTst (fB2 dEq (fB2 dIx (fVar 0) (fC (.int 0))) (fC (.str "deep")))) (fSeq (fIfS (fNot (fTst (fUs (pure1 G_makes_zero) (fCons (fVar 2) (fNil))))) (fRet (fC (.int 1))) (fNx)) (fRet (fIf (fTst (fUs (pure1 G_makes_zero) (fCons (fVar 1) (fNil)))) (fUs (pure1 G_raised) (fCons (fB2 dIx (fVar 0) (fC (.int 1))) (fCons (fB2 dSub (fUs (pure1 G_torsion_in) (fCons (fB2 dIx (fVar 0) (fC (.int 1))) (fCons (fVar 1) (fNil)))) (fUs (pure1 G_torsion_in) (fCons (fB2 dIx (fVar 0) (fC (.int 1))) (fCons (fVar 2) (fNil))))) (fNil)))) (fC .none)))) (fNx)) (fSeq (fIfS (fTst (fUs (pure1 G_makes_zero) (fCons (fVar 1) (fNil)))) (fRet (fC (.int 1))) (fNx)) (fSeq (fIfS (fTst (fUs (pure1 G_makes_zero) (fCons (fVar 2) (fNil)))) (fRet (fC .none)) (fNx)) (fSeq (fIfS (fTst (fB2 dEq (fB2 dIx (fVar 0) (fC (.int 0))) (fC (.str "all")))) (fRet (fC (.int 1))) (fNx)) (fSeq (fSet 3 (fUs (pure1 G_greatest_exponent) (fCons (fB2 dIx (fVar 0) (fC (.int 1))) (fCons (fVar 2) (fNil))))) (fRet (fUs (pure1 G_raised) (fCons (fB2 dIx (fVar 0) (fC (.int 1))) (fCons (fB2 dSub (fUs (pure1 G_exponent_in) (fCons (fB2 dIx (fVar 0) (fC (.int 1))) (fCons (fVar 2) (fCons (fVar 3) (fNil))))) (fUs (pure1 G_exponent_in) (fCons (fB2 dIx (fVar 0) (fC (.int 1))) (fCons (fVar 1) (fCons (fVar 3) (fNil)))))) (fNil)))))))))))
theorem w_index_of_part (F : Fun K "index_of_part" "index_of_part" s_index_of_part f fd) {f_index_of_line : Addr} {fd_index_of_line : FuncData} (F_index_of_line : Fun K "index_of_line" "index_of_line" s_index_of_line f_index_of_line fd_index_of_line) (g_index_of_line : mg "index_of_line" = some (.ref f_index_of_line)) (W_index_of_line : FnG P w K mg base CX0 6 f_index_of_line fd_index_of_line ["one", "both"] (spU K T false 2 (pure1 G_index_of_line))) {f_raised : Addr} {fd_raised : FuncData} (F_raised : Fun K "raised" "raised" s_raised f_raised fd_raised) (g_raised : mg "raised" = some (.ref f_raised)) (W_raised : FnG P w K mg base CX0 1 f_raised fd_raised ["p", "many"] (spU K T false 2 (pure1 G_raised))) {f_exponent_in : Addr} {fd_exponent_in : FuncData} (F_exponent_in : Fun K "exponent_in" "exponent_in" s_exponent_in f_exponent_in fd_exponent_in) (g_exponent_in : mg "exponent_in" = some (.ref f_exponent_in)) (W_exponent_in : FnG P w K mg base CX0 2 f_exponent_in fd_exponent_in ["p", "lot", "most"] (spU K T false 3 (pure1 G_exponent_in))) {f_makes_zero : Addr} {fd_makes_zero : FuncData} (F_makes_zero : Fun K "makes_zero" "makes_zero" s_makes_zero f_makes_zero fd_makes_zero) (g_makes_zero : mg "makes_zero" = some (.ref f_makes_zero)) (W_makes_zero : FnG P w K mg base CX0 4 f_makes_zero fd_makes_zero ["lot"] (spU K T false 1 (pure1 G_makes_zero))) {f_torsion_in : Addr} {fd_torsion_in : FuncData} (F_torsion_in : Fun K "torsion_in" "torsion_in" s_torsion_in f_torsion_in fd_torsion_in) (g_torsion_in : mg "torsion_in" = some (.ref f_torsion_in)) (W_torsion_in : FnG P w K mg base CX0 2 f_torsion_in fd_torsion_in ["p", "lot"] (spU K T false 2 (pure1 G_torsion_in))) {f_greatest_exponent : Addr} {fd_greatest_exponent : FuncData} (F_greatest_exponent : Fun K "greatest_exponent" "greatest_exponent" s_greatest_exponent f_greatest_exponent fd_greatest_exponent) (g_greatest_exponent : mg "greatest_exponent" = some (.ref f_greatest_exponent)) (W_greatest_exponent : FnG P w K mg base CX0 2 f_greatest_exponent fd_greatest_exponent ["p", "lot"] (spU K T false 2 (pure1 G_greatest_exponent))) : FnG P w K mg base CX0 7 f fd ["part", "one", "both"] (spU K T false 3 (fFn false 4 m_index_of_part)) := by
  have b_index_of_line : Binds K fd_index_of_line ["one", "both"] [] := F_index_of_line.binds fun _ _ _ _ _ _ us hl => match us, hl with | [_, _], _ => rfl
  have b_raised : Binds K fd_raised ["p", "many"] [] := F_raised.binds fun _ _ _ _ _ _ us hl => match us, hl with | [_, _], _ => rfl
  have b_exponent_in : Binds K fd_exponent_in ["p", "lot", "most"] [] := F_exponent_in.binds fun _ _ _ _ _ _ us hl => match us, hl with | [_, _, _], _ => rfl
  have b_makes_zero : Binds K fd_makes_zero ["lot"] [] := F_makes_zero.binds fun _ _ _ _ _ _ us hl => match us, hl with | [_], _ => rfl
  have b_torsion_in : Binds K fd_torsion_in ["p", "lot"] [] := F_torsion_in.binds fun _ _ _ _ _ _ us hl => match us, hl with | [_, _], _ => rfl
  have b_greatest_exponent : Binds K fd_greatest_exponent ["p", "lot"] [] := F_greatest_exponent.binds fun _ _ _ _ _ _ us hl => match us, hl with | [_, _], _ => rfl
  refine fn_data T false F sc_index_of_part [] rfl fun cdv A outer s H E hcd hr hN => ?_
  exact (sds_cons (sd_if (ptd_cmp (op_eqD hr.u64) bn_eq (PD.toB (pd_ix (PD.toB (pd_var 0)) (PD.toB pd_int))) (PD.toB pd_str)) (sds_one (sd_ret (PD.toB (pd_user W_index_of_line (hr.mono (by decide)) g_index_of_line F_index_of_line.kp b_index_of_line (pad_cons (pd_var 1) (pad_cons (pd_var 2) pad_nil)) (al_cons (al_cons al_nil)))))) sds_nil) (sds_cons (sd_if (ptd_cmp (op_eqD hr.u64) bn_eq (PD.toB (pd_ix (PD.toB (pd_var 0)) (PD.toB pd_int))) (PD.toB pd_str)) (sds_one (sd_ret (PD.toB (pd_user W_raised (hr.mono (by decide)) g_raised F_raised.kp b_raised (pad_cons (pd_ix (PD.toB (pd_var 0)) (PD.toB pd_int)) (pad_cons (pd_op op_sub bn_sub (PD.toB (pd_user W_exponent_in (hr.mono (by decide)) g_exponent_in F_exponent_in.kp b_exponent_in (pad_cons (pd_ix (PD.toB (pd_var 0)) (PD.toB pd_int)) (pad_cons (pd_var 2) (pad_cons (pd_ix (PD.toB (pd_var 0)) (PD.toB pd_int)) pad_nil))) (al_cons (al_cons (al_cons al_nil))))) (PD.toB (pd_user W_exponent_in (hr.mono (by decide)) g_exponent_in F_exponent_in.kp b_exponent_in (pad_cons (pd_ix (PD.toB (pd_var 0)) (PD.toB pd_int)) (pad_cons (pd_var 1) (pad_cons (pd_ix (PD.toB (pd_var 0)) (PD.toB pd_int)) pad_nil))) (al_cons (al_cons (al_cons al_nil)))))) pad_nil)) (al_cons (al_cons al_nil)))))) sds_nil) (sds_cons (sd_if (ptd_cmp (op_eqD hr.u64) bn_eq (PD.toB (pd_ix (PD.toB (pd_var 0)) (PD.toB pd_int))) (PD.toB pd_str)) (sds_cons (sd_if (ptd_not (ptd_val (pd_user W_makes_zero (hr.mono (by decide)) g_makes_zero F_makes_zero.kp b_makes_zero (pad_cons (pd_var 2) pad_nil) (al_cons al_nil)))) (sds_one (sd_ret (PD.toB pd_int))) sds_nil) (sds_one (sd_ret (PD.toB (pd_ifExp (ptd_val (pd_user W_makes_zero (hr.mono (by decide)) g_makes_zero F_makes_zero.kp b_makes_zero (pad_cons (pd_var 1) pad_nil) (al_cons al_nil))) (pd_user W_raised (hr.mono (by decide)) g_raised F_raised.kp b_raised (pad_cons (pd_ix (PD.toB (pd_var 0)) (PD.toB pd_int)) (pad_cons (pd_op op_sub bn_sub (PD.toB (pd_user W_torsion_in (hr.mono (by decide)) g_torsion_in F_torsion_in.kp b_torsion_in (pad_cons (pd_ix (PD.toB (pd_var 0)) (PD.toB pd_int)) (pad_cons (pd_var 1) pad_nil)) (al_cons (al_cons al_nil)))) (PD.toB (pd_user W_torsion_in (hr.mono (by decide)) g_torsion_in F_torsion_in.kp b_torsion_in (pad_cons (pd_ix (PD.toB (pd_var 0)) (PD.toB pd_int)) (pad_cons (pd_var 2) pad_nil)) (al_cons (al_cons al_nil))))) pad_nil)) (al_cons (al_cons al_nil))) pd_non))))) sds_nil) (sds_cons (sd_if (ptd_val (pd_user W_makes_zero (hr.mono (by decide)) g_makes_zero F_makes_zero.kp b_makes_zero (pad_cons (pd_var 1) pad_nil) (al_cons al_nil))) (sds_one (sd_ret (PD.toB pd_int))) sds_nil) (sds_cons (sd_if (ptd_val (pd_user W_makes_zero (hr.mono (by decide)) g_makes_zero F_makes_zero.kp b_makes_zero (pad_cons (pd_var 2) pad_nil) (al_cons al_nil))) (sds_one (sd_ret (PD.toB pd_non))) sds_nil) (sds_cons (sd_if (ptd_cmp (op_eqD hr.u64) bn_eq (PD.toB (pd_ix (PD.toB (pd_var 0)) (PD.toB pd_int))) (PD.toB pd_str)) (sds_one (sd_ret (PD.toB pd_int))) sds_nil) (sds_cons (sd_set 3 (pd_user W_greatest_exponent (hr.mono (by decide)) g_greatest_exponent F_greatest_exponent.kp b_greatest_exponent (pad_cons (pd_ix (PD.toB (pd_var 0)) (PD.toB pd_int)) (pad_cons (pd_var 2) pad_nil)) (al_cons (al_cons al_nil)))) (sds_one (sd_ret (PD.toB (pd_user W_raised (hr.mono (by decide)) g_raised F_raised.kp b_raised (pad_cons (pd_ix (PD.toB (pd_var 0)) (PD.toB pd_int)) (pad_cons (pd_op op_sub bn_sub (PD.toB (pd_user W_exponent_in (hr.mono (by decide)) g_exponent_in F_exponent_in.kp b_exponent_in (pad_cons (pd_ix (PD.toB (pd_var 0)) (PD.toB pd_int)) (pad_cons (pd_var 2) (pad_cons (pd_var 3) pad_nil))) (al_cons (al_cons (al_cons al_nil))))) (PD.toB (pd_user W_exponent_in (hr.mono (by decide)) g_exponent_in F_exponent_in.kp b_exponent_in (pad_cons (pd_ix (PD.toB (pd_var 0)) (PD.toB pd_int)) (pad_cons (pd_var 1) (pad_cons (pd_var 3) pad_nil))) (al_cons (al_cons (al_cons al_nil)))))) pad_nil)) (al_cons (al_cons al_nil)))))))))))))
def G_index_of_part : List D → Option D := fun ds => (fFn false 4 m_index_of_part ds (0, 0, 0)).map (·.1)
theorem sc_index_of : FnScope ["group", "one", "other", "found", "part", "many", "own"] ["group", "one", "other"] (defScope s_index_of) := ⟨rfl, rfl, rfl, by decide +kernel, rfl, by decide +kernel, by decide +kernel⟩
def m_index_of : FS := fSeq (fSet 3 (fC (.int 1))) (fSeq (fFor (fSeqI (fVar 0)) (sTup (sCons (sName 4) (sCons (sName 5) (sNil)))) (fSeq (fSet 6 (fUs (pure1 G_index_of_part) (fCons (fVar 4) (fCons (fVar 1) (fCons (fB2 dAdd (fVar 1) (fVar 2)) (fNil)))))) (fSeq (fIfS (fOr (fTst (fB2 dIsN (fVar 6) (fC .none))) (fAnd (fTst (fB2 dGt (fVar 6) (fC (.int 1)))) (fTst (fB2 dEq (fVar 5) (fC c_EVER))))) (fRet (fC .none)) (fNx)) (fSet 3 (fB2 dMulI (fVar 3) (fUs (pure1 G_raised) (fCons (fVar 6) (fCons (fIf (fTst (fB2 dGt (fVar 6) (fC (.int 1)))) (fVar 5) (fC (.int 0))) (fNil))))))))) (fRet (fVar 3)))
theorem w_index_of (F : Fun K "index_of" "index_of" s_index_of f fd) (k_EVER : KC K mg "EVER" c_EVER) {f_index_of_part : Addr} {fd_index_of_part : FuncData} (F_index_of_part : Fun K "index_of_part" "index_of_part" s_index_of_part f_index_of_part fd_index_of_part) (g_index_of_part : mg "index_of_part" = some (.ref f_index_of_part)) (W_index_of_part : FnG P w K mg base CX0 7 f_index_of_part fd_index_of_part ["part", "one", "both"] (spU K T false 3 (pure1 G_index_of_part))) {f_raised : Addr} {fd_raised : FuncData} (F_raised : Fun K "raised" "raised" s_raised f_raised fd_raised) (g_raised : mg "raised" = some (.ref f_raised)) (W_raised : FnG P w K mg base CX0 1 f_raised fd_raised ["p", "many"] (spU K T false 2 (pure1 G_raised))) : FnG P w K mg base CX0 8 f fd ["group", "one", "other"] (spU K T false 3 (fFn false 7 m_index_of)) := by
  have b_index_of_part : Binds K fd_index_of_part ["part", "one", "both"] [] := F_index_of_part.binds fun _ _ _ _ _ _ us hl => match us, hl with | [_, _, _], _ => rfl
  have b_raised : Binds K fd_raised ["p", "many"] [] := F_raised.binds fun _ _ _ _ _ _ us hl => match us, hl with | [_, _], _ => rfl
  refine fn_data T false F sc_index_of [] rfl fun cdv A outer s H E hcd hr hN => ?_
  exact (sds_cons (sd_set 3 pd_int) (sds_cons (sd_for (pid_seq (pd_var 0)) (pgd_tup (pgsd_cons (pgd_name 4) (pgsd_cons (pgd_name 5) pgsd_nil))) (sds_cons (sd_set 6 (pd_user W_index_of_part (hr.mono (by decide)) g_index_of_part F_index_of_part.kp b_index_of_part (pad_cons (pd_var 4) (pad_cons (pd_var 1) (pad_cons (pd_op op_addD bn_add (PD.toB (pd_var 1)) (PD.toB (pd_var 2))) pad_nil))) (al_cons (al_cons (al_cons al_nil))))) (sds_cons (sd_if (PWD.toT (pwd_or (ptd_cmp (op_isN) bn_isN (PD.toB (pd_var 6)) (PD.toB pd_non)) (pwd_or1 (PWD.toT (pwd_and (ptd_cmp (op_gt) bn_gt (PD.toB (pd_var 6)) (PD.toB pd_int)) (pwd_and1 (ptd_cmp (op_eqD hr.u64) bn_eq (PD.toB (pd_var 5)) (PD.toB (pd_kc k_EVER))))))))) (sds_one (sd_ret (PD.toB pd_non))) sds_nil) (sds_one (sd_set 3 (pd_op op_mulW bn_mul (PD.toB (pd_var 3)) (PD.toB (pd_user W_raised (hr.mono (by decide)) g_raised F_raised.kp b_raised (pad_cons (pd_var 6) (pad_cons (pd_ifExp (ptd_cmp (op_gt) bn_gt (PD.toB (pd_var 6)) (PD.toB pd_int)) (pd_var 5) pd_int) pad_nil)) (al_cons (al_cons al_nil)))))))))) (sds_one (sd_ret (PD.toB (pd_var 3))))))
def G_index_of : List D → Option D := fun ds => (fFn false 7 m_index_of ds (0, 0, 0)).map (·.1)
theorem sc_index_in : FnScope ["group", "one", "other"] ["group", "one", "other"] (defScope s_index_in) := ⟨rfl, rfl, rfl, by decide +kernel, rfl, by decide +kernel, by decide +kernel⟩
def m_index_in : FS := fSeq (fDrop (fUs (pure1 G_check_group) (fCons (fVar 0) (fNil)))) (fSeq (fDrop (fUs (pure1 G_check_lot) (fCons (fC (.int 1)) (fCons (fVar 1) (fNil))))) (fSeq (fDrop (fUs (pure1 G_check_lot) (fCons (fC (.int 1)) (fCons (fVar 2) (fNil))))) (fRet (fUs (pure1 G_index_of) (fCons (fVar 0) (fCons (fVar 1) (fCons (fVar 2) (fNil))))))))
theorem w_index_in (F : Fun K "index_in" "index_in" s_index_in f fd) {f_check_group : Addr} {fd_check_group : FuncData} (F_check_group : Fun K "check_group" "check_group" s_check_group f_check_group fd_check_group) (g_check_group : mg "check_group" = some (.ref f_check_group)) (W_check_group : FnG P w K mg base CX0 11 f_check_group fd_check_group ["group"] (spU K T false 1 (pure1 G_check_group))) {f_check_lot : Addr} {fd_check_lot : FuncData} (F_check_lot : Fun K "check_lot" "check_lot" s_check_lot f_check_lot fd_check_lot) (g_check_lot : mg "check_lot" = some (.ref f_check_lot)) (W_check_lot : FnG P w K mg base CX0 11 f_check_lot fd_check_lot ["n", "lot"] (spU K T false 2 (pure1 G_check_lot))) {f_index_of : Addr} {fd_index_of : FuncData} (F_index_of : Fun K "index_of" "index_of" s_index_of f_index_of fd_index_of) (g_index_of : mg "index_of" = some (.ref f_index_of)) (W_index_of : FnG P w K mg base CX0 8 f_index_of fd_index_of ["group", "one", "other"] (spU K T false 3 (pure1 G_index_of))) : FnG P w K mg base CX0 12 f fd ["group", "one", "other"] (spU K T false 3 (fFn false 3 m_index_in)) := by
  have b_check_group : Binds K fd_check_group ["group"] [] := F_check_group.binds fun _ _ _ _ _ _ us hl => match us, hl with | [_], _ => rfl
  have b_check_lot : Binds K fd_check_lot ["n", "lot"] [] := F_check_lot.binds fun _ _ _ _ _ _ us hl => match us, hl with | [_, _], _ => rfl
  have b_index_of : Binds K fd_index_of ["group", "one", "other"] [] := F_index_of.binds fun _ _ _ _ _ _ us hl => match us, hl with | [_, _, _], _ => rfl
  refine fn_data T false F sc_index_in [] rfl fun cdv A outer s H E hcd hr hN => ?_
  exact (sds_cons (sd_expr (PD.toB (pd_user W_check_group (hr.mono (by decide)) g_check_group F_check_group.kp b_check_group (pad_cons (pd_var 0) pad_nil) (al_cons al_nil)))) (sds_cons (sd_expr (PD.toB (pd_user W_check_lot (hr.mono (by decide)) g_check_lot F_check_lot.kp b_check_lot (pad_cons pd_int (pad_cons (pd_var 1) pad_nil)) (al_cons (al_cons al_nil))))) (sds_cons (sd_expr (PD.toB (pd_user W_check_lot (hr.mono (by decide)) g_check_lot F_check_lot.kp b_check_lot (pad_cons pd_int (pad_cons (pd_var 2) pad_nil)) (al_cons (al_cons al_nil))))) (sds_one (sd_ret (PD.toB (pd_user W_index_of (hr.mono (by decide)) g_index_of F_index_of.kp b_index_of (pad_cons (pd_var 0) (pad_cons (pd_var 1) (pad_cons (pd_var 2) pad_nil))) (al_cons (al_cons (al_cons al_nil))))))))))
def G_index_in : List D → Option D := fun ds => (fFn false 3 m_index_in ds (0, 0, 0)).map (·.1)
theorem sc__law_source : FnScope ["script", "k", "own", "mixed", "number"] ["script", "k"] (defScope s__law_source) := ⟨rfl, rfl, rfl, by decide +kernel, rfl, by decide +kernel, by decide +kernel⟩
def m__law_source (ns : List Int) : FS := fSeq (fSet 2 (fIf (fTst (fB2 dLtI (fVar 1) (fC (.int ns.length)))) (fCall dInt (fCons (fScr ns (fVar 1)) (fNil))) (fB2 dAdd (fC (.int 11)) (fB2 dMulI (fC (.int 9973)) (fVar 1))))) (fSeq (fSet 3 (fB2 dAdd (fC (.int ns.length)) (fC (.int 5)))) (fSeq (fFor (fSeqI (fSl dSlL (fC (.list (ns.map PyData.int))) (fNoPart) (fPart (fC (.int 63))))) (sName 4) (fSet 3 (fB2 dMod (fCall dInt (fCons (fB2 dAdd (fB2 dMulI (fVar 3) (fC (.int 6700417))) (fB2 dMod (fCall dInt (fCons (fVar 4) (fNil))) (fB2 dAdd (fB2 dPow (fC (.int 10)) (fC (.int 25))) (fC (.int 13))))) (fNil))) (fB2 dAdd (fB2 dPow (fC (.int 10)) (fC (.int 27))) (fC (.int 103)))))) (fSeq (fSet 3 (fB2 dMod (fCall dInt (fCons (fB2 dAdd (fB2 dAdd (fB2 dMulI (fVar 3) (fC (.int 97))) (fB2 dMulI (fVar 1) (fC (.int 7919)))) (fB2 dMod (fCall dInt (fCons (fVar 2) (fNil))) (fB2 dAdd (fB2 dPow (fC (.int 10)) (fC (.int 26))) (fC (.int 67))))) (fNil))) (fB2 dAdd (fB2 dPow (fC (.int 10)) (fC (.int 27))) (fC (.int 103))))) (fRet (fLst (fCons (fCall dMax2 (fCons (fC (.int 0)) (fCons (fB2 dSub (fCall dAbs (fCons (fVar 2) (fNil))) (fB2 dPow (fC (.int 10)) (fC (.int 18)))) (fNil)))) (fCons (fVar 3) (fCons (fC (.int 0)) (fNil)))))))))
theorem w__law_source (F : Fun K "_law_source" "_law_source" s__law_source f fd) (g_len : mg "len" = none) (g_int : mg "int" = none) (g_abs : mg "abs" = none) (g_max : mg "max" = none) : FnG P w K mg base CX0 1 f fd ["script", "k"] (spScr K T 2 (fScrFn 5 m__law_source)) := by
  refine fn_script T F sc__law_source [] rfl fun ns cdv A outer s H E hcd hr hN => ?_
  exact (sds_cons (sd_set 2 (pd_ifExp (ptd_cmp (op_lt) bn_ltI (PD.toB (pd_var 1)) (PD.toB (pd_scrLen 0 rfl g_len))) (pd_callTy call_int1 ca_int g_int rfl (pab_cons (PD.toB (pd_scrIx 0 rfl (pd_var 1))) pab_nil)) (pd_op op_addD bn_add (PD.toB pd_int) (PD.toB (pd_op op_mulW bn_mul (PD.toB pd_int) (PD.toB (pd_var 1))))))) (sds_cons (sd_set 3 (pd_op op_addD bn_add (PD.toB (pd_scrLen 0 rfl g_len)) (PD.toB pd_int))) (sds_cons (sd_for (pid_seq (PF.toD (pf_scrSl 0 rfl pod_none (pod_some pd_int)) nd_sl)) (pgd_name 4) (sds_one (sd_set 3 (pd_op op_mod bn_mod (PD.toB (pd_callTy call_int1 ca_int g_int rfl (pab_cons (PD.toB (pd_op op_addD bn_add (PD.toB (pd_op op_mulW bn_mul (PD.toB (pd_var 3)) (PD.toB pd_int))) (PD.toB (pd_op op_mod bn_mod (PD.toB (pd_callTy call_int1 ca_int g_int rfl (pab_cons (PD.toB (pd_var 4)) pab_nil))) (PD.toB (pd_op op_addD bn_add (PD.toB (pd_op op_pow bn_pow (PD.toB pd_int) (PD.toB pd_int))) (PD.toB pd_int))))))) pab_nil))) (PD.toB (pd_op op_addD bn_add (PD.toB (pd_op op_pow bn_pow (PD.toB pd_int) (PD.toB pd_int))) (PD.toB pd_int))))))) (sds_cons (sd_set 3 (pd_op op_mod bn_mod (PD.toB (pd_callTy call_int1 ca_int g_int rfl (pab_cons (PD.toB (pd_op op_addD bn_add (PD.toB (pd_op op_addD bn_add (PD.toB (pd_op op_mulW bn_mul (PD.toB (pd_var 3)) (PD.toB pd_int))) (PD.toB (pd_op op_mulW bn_mul (PD.toB (pd_var 1)) (PD.toB pd_int))))) (PD.toB (pd_op op_mod bn_mod (PD.toB (pd_callTy call_int1 ca_int g_int rfl (pab_cons (PD.toB (pd_var 2)) pab_nil))) (PD.toB (pd_op op_addD bn_add (PD.toB (pd_op op_pow bn_pow (PD.toB pd_int) (PD.toB pd_int))) (PD.toB pd_int))))))) pab_nil))) (PD.toB (pd_op op_addD bn_add (PD.toB (pd_op op_pow bn_pow (PD.toB pd_int) (PD.toB pd_int))) (PD.toB pd_int))))) (sds_one (sd_ret (PF.toB (pf_lst (pad_cons (pd_callB (call_max2 rfl) ca_max2 g_max rfl (pab_cons (PD.toB pd_int) (pab_cons (PD.toB (pd_op op_sub bn_sub (PD.toB (pd_callB call_abs ca_abs g_abs rfl (pab_cons (PD.toB (pd_var 2)) pab_nil))) (PD.toB (pd_op op_pow bn_pow (PD.toB pd_int) (PD.toB pd_int))))) pab_nil))) (pad_cons (pd_var 3) (pad_cons pd_int pad_nil)))))))))))
def L__law_source : List Int → List D → Option D := fScrFn 5 m__law_source
theorem sc__law_draw : FnScope ["source", "many", "found"] ["source", "many"] (defScope s__law_draw) := ⟨rfl, rfl, rfl, by decide +kernel, rfl, by decide +kernel, by decide +kernel⟩
def m__law_draw : FS := fSeq (fIfS (fTst (fB2 dGt (fSrc 0) (fC (.int 0)))) (fSeq (fSet 2 (fB2 dMod (fCall dInt (fCons (fSrc 0) (fNil))) (fVar 1))) (fSeq (fSrcSet 0 (fB2 dDiv (fSrc 0) (fVar 1))) (fRet (fVar 2)))) (fNx)) (fSeq (fSrcSet 2 (fB2 dAdd (fSrc 2) (fC (.int 1)))) (fSeq (fSrcSet 1 (fB2 dMod (fCall dInt (fCons (fB2 dAdd (fB2 dAdd (fB2 dMulI (fSrc 1) (fC (.int 2330130241))) (fB2 dMulI (fB2 dMulI (fSrc 2) (fSrc 2)) (fC (.int 69621)))) (fC (.int 11))) (fNil))) (fB2 dAdd (fB2 dPow (fC (.int 10)) (fC (.int 27))) (fC (.int 103))))) (fRet (fB2 dMod (fCall dInt (fCons (fB2 dDiv (fSrc 1) (fB2 dPow (fC (.int 10)) (fC (.int 6)))) (fNil))) (fVar 1)))))
theorem w__law_draw (F : Fun K "_law_draw" "_law_draw" s__law_draw f fd) (g_int : mg "int" = none) : FnG P w K mg base CX0 1 f fd ["source", "many"] (spU K T true 2 (fFn true 3 m__law_draw)) := by
  refine fn_data T true F sc__law_draw [] rfl fun cdv A outer s H E hcd hr hN => ?_
  exact (sds_cons (sd_if (ptd_cmp (op_gt) bn_gt (PD.toB (pd_src 0 rfl)) (PD.toB pd_int)) (sds_cons (sd_set 2 (pd_op op_mod bn_mod (PD.toB (pd_callTy call_int1 ca_int g_int rfl (pab_cons (PD.toB (pd_src 0 rfl)) pab_nil))) (PD.toB (pd_var 1)))) (sds_cons (sd_src 0 rfl (pd_op op_fdivW bn_div (PD.toB (pd_src 0 rfl)) (PD.toB (pd_var 1)))) (sds_one (sd_ret (PD.toB (pd_var 2)))))) sds_nil) (sds_cons (sd_src 0 rfl (pd_op op_addD bn_add (PD.toB (pd_src 0 rfl)) (PD.toB pd_int))) (sds_cons (sd_src 0 rfl (pd_op op_mod bn_mod (PD.toB (pd_callTy call_int1 ca_int g_int rfl (pab_cons (PD.toB (pd_op op_addD bn_add (PD.toB (pd_op op_addD bn_add (PD.toB (pd_op op_mulW bn_mul (PD.toB (pd_src 0 rfl)) (PD.toB pd_int))) (PD.toB (pd_op op_mulW bn_mul (PD.toB (pd_op op_mulW bn_mul (PD.toB (pd_src 0 rfl)) (PD.toB (pd_src 0 rfl)))) (PD.toB pd_int))))) (PD.toB pd_int))) pab_nil))) (PD.toB (pd_op op_addD bn_add (PD.toB (pd_op op_pow bn_pow (PD.toB pd_int) (PD.toB pd_int))) (PD.toB pd_int))))) (sds_one (sd_ret (PD.toB (pd_op op_mod bn_mod (PD.toB (pd_callTy call_int1 ca_int g_int rfl (pab_cons (PD.toB (pd_op op_fdivW bn_div (PD.toB (pd_src 0 rfl)) (PD.toB (pd_op op_pow bn_pow (PD.toB pd_int) (PD.toB pd_int))))) pab_nil))) (PD.toB (pd_var 1)))))))))
def H__law_draw : GFun := fFn true 3 m__law_draw
theorem sc__law_same : FnScope ["told", "due"] ["told", "due"] (defScope s__law_same) := ⟨rfl, rfl, rfl, by decide +kernel, rfl, by decide +kernel, by decide +kernel⟩
def m__law_same : FS := fRet (fB2 dEq (fCall dReprA (fCons (fVar 0) (fNil))) (fCall dReprA (fCons (fVar 1) (fNil))))
theorem w__law_same (F : Fun K "_law_same" "_law_same" s__law_same f fd) (g_repr : mg "repr" = none) : FnG P w K mg base CX0 1 f fd ["told", "due"] (spU K T false 2 (fFn false 2 m__law_same)) := by
  refine fn_data T false F sc__law_same [] rfl fun cdv A outer s H E hcd hr hN => ?_
  exact (sds_one (sd_ret (PD.toB (pd_cmp (op_eqD hr.u64) bn_eq (PD.toB (pd_callB (cr_reprA hr.u64 hr.gd) ca_reprA g_repr rfl (pab_cons (PD.toB (pd_var 0)) pab_nil))) (PD.toB (pd_callB (cr_reprA hr.u64 hr.gd) ca_reprA g_repr rfl (pab_cons (PD.toB (pd_var 1)) pab_nil)))))))
def G__law_same : List D → Option D := fun ds => (fFn false 2 m__law_same ds (0, 0, 0)).map (·.1)
theorem sc__law_rows : FnScope ["source", "zeros", "found", "turn", "d"] ["source", "zeros"] (defScope s__law_rows) := ⟨rfl, rfl, rfl, by decide +kernel, rfl, by decide +kernel, by decide +kernel⟩
def m__law_rows : FS := fSeq (fSet 2 (fLst (fNil))) (fSeq (fFor (fRng dRange1 (fCons (fUs H__law_draw (fCons (fC (.int 3)) (fNil))) (fNil))) (sName 3) (fSeq (fSet 4 (fIf (fAnd (fTst (fVar 1)) (fTst (fB2 dEq (fUs H__law_draw (fCons (fC (.int 2)) (fNil))) (fC (.int 0))))) (fC (.int 0)) (fB2 dIx (fLst (fCons (fC (.int 2)) (fCons (fC (.int 3)) (fCons (fC (.int 4)) (fCons (fC (.int 6)) (fCons (fC (.int 8)) (fCons (fC (.int 9)) (fCons (fC (.int 12)) (fCons (fC (.int 16)) (fCons (fC (.int 10)) (fCons (fC (.int 1)) (fNil)))))))))))) (fUs H__law_draw (fCons (fC (.int 10)) (fNil)))))) (fApp 2 (fTup (fCons (fVar 4) (fCons (fTup (fCons (fIf (fTst (fB2 dGt (fUs H__law_draw (fCons (fC (.int 4)) (fNil))) (fC (.int 0)))) (fB2 dAdd (fC (.int 1)) (fUs H__law_draw (fCons (fC (.int 16)) (fNil)))) (fB2 dSub (fU1 dNeg (fC (.int 1))) (fUs H__law_draw (fCons (fC (.int 6)) (fNil))))) (fNil))) (fNil))))))) (fRet (fCall dTuple (fCons (fVar 2) (fNil)))))
theorem w__law_rows (F : Fun K "_law_rows" "_law_rows" s__law_rows f fd) (g_range : mg "range" = none) (g_tuple : mg "tuple" = none) {f__law_draw : Addr} {fd__law_draw : FuncData} (F__law_draw : Fun K "_law_draw" "_law_draw" s__law_draw f__law_draw fd__law_draw) (g__law_draw : mg "_law_draw" = some (.ref f__law_draw)) (W__law_draw : FnG P w K mg base CX0 1 f__law_draw fd__law_draw ["source", "many"] (spU K T true 2 H__law_draw)) : FnG P w K mg base CX0 2 f fd ["source", "zeros"] (spU K T true 2 (fFn true 5 m__law_rows)) := by
  have b__law_draw : Binds K fd__law_draw ["source", "many"] [] := F__law_draw.binds fun _ _ _ _ _ _ us hl => match us, hl with | [_, _], _ => rfl
  refine fn_data T true F sc__law_rows [2] rfl fun cdv A outer s H E hcd hr hN => ?_
  exact (sds_cons (sd_setOwn 2 (pf_lst pad_nil) (hlen := by show 2 < 5; decide)) (sds_cons (sd_for (pid_range1 (pab_cons (PD.toB (pd_userS 0 rfl W__law_draw (hr.mono (by decide)) g__law_draw F__law_draw.kp b__law_draw (pad_cons pd_int pad_nil) (al_cons al_nil))) pab_nil) g_range) (pgd_name 3) (sds_cons (sd_set 4 (pd_ifExp (PWD.toT (pwd_and (ptd_val (pd_var 1)) (pwd_and1 (ptd_cmp (op_eqD hr.u64) bn_eq (PD.toB (pd_userS 0 rfl W__law_draw (hr.mono (by decide)) g__law_draw F__law_draw.kp b__law_draw (pad_cons pd_int pad_nil) (al_cons al_nil))) (PD.toB pd_int))))) pd_int (pd_ix (PF.toB (pf_lst (pad_cons pd_int (pad_cons pd_int (pad_cons pd_int (pad_cons pd_int (pad_cons pd_int (pad_cons pd_int (pad_cons pd_int (pad_cons pd_int (pad_cons pd_int (pad_cons pd_int pad_nil)))))))))))) (PD.toB (pd_userS 0 rfl W__law_draw (hr.mono (by decide)) g__law_draw F__law_draw.kp b__law_draw (pad_cons pd_int pad_nil) (al_cons al_nil)))))) (sds_one (sd_append 2 (pd_tup (pad_cons (pd_var 4) (pad_cons (pd_tup (pad_cons (pd_ifExp (ptd_cmp (op_gt) bn_gt (PD.toB (pd_userS 0 rfl W__law_draw (hr.mono (by decide)) g__law_draw F__law_draw.kp b__law_draw (pad_cons pd_int pad_nil) (al_cons al_nil))) (PD.toB pd_int)) (pd_op op_addD bn_add (PD.toB pd_int) (PD.toB (pd_userS 0 rfl W__law_draw (hr.mono (by decide)) g__law_draw F__law_draw.kp b__law_draw (pad_cons pd_int pad_nil) (al_cons al_nil)))) (pd_op op_sub bn_sub (PD.toB (pd_un un_neg un_negD (PD.toB pd_int))) (PD.toB (pd_userS 0 rfl W__law_draw (hr.mono (by decide)) g__law_draw F__law_draw.kp b__law_draw (pad_cons pd_int pad_nil) (al_cons al_nil))))) pad_nil)) pad_nil))))))) (sds_one (sd_ret (PD.toB (pd_callTy call_tupF ca_tuple g_tuple rfl (pab_cons (pb_own 2) pab_nil)))))))
def H__law_rows : GFun := fFn true 5 m__law_rows
theorem sc__law_multiple : FnScope ["lot", "own", "d", "a"] ["lot"] (defScope s__law_multiple) := ⟨rfl, rfl, rfl, by decide +kernel, rfl, by decide +kernel, by decide +kernel⟩
def m__law_multiple : FS := fSeq (fFor (fRng dRange2 (fCons (fC (.int 1)) (fCons (fC (.int 20000)) (fNil)))) (sName 1) (fIfS (fTst (fCall dAllL (fCons (fLc (fSeqI (fVar 0)) (sTup (sCons (sName 2) (sCons (sName 3) (sNil)))) (fYes) (fB2 dEq (fB2 dMod (fB2 dMulI (fB2 dIx (fVar 3) (fC (.int 0))) (fVar 1)) (fVar 2)) (fC (.int 0))) [2, 3]) (fNil)))) (fRet (fVar 1)) (fNx))) (fRet (fC .none))
theorem w__law_multiple (F : Fun K "_law_multiple" "_law_multiple" s__law_multiple f fd) (g_range : mg "range" = none) (g_all : mg "all" = none) : FnG P w K mg base CX0 1 f fd ["lot"] (spU K T false 1 (fFn false 4 m__law_multiple)) := by
  refine fn_data T false F sc__law_multiple [] rfl fun cdv A outer s H E hcd hr hN => ?_
  exact (sds_cons (sd_for (pid_range2 (pab_cons (PD.toB pd_int) (pab_cons (PD.toB pd_int) pab_nil)) g_range) (pgd_name 1) (sds_one (sd_if (ptd_val (pd_callB (cr_all rfl) ca_allL g_all rfl (pab_cons (PF.toB (pf_lc (cv := [("d", 2), ("a", 3)]) (b := true) (pid_seq (pd_var 0)) (blkOk_by (by rfl)) (fun s H C cl fp => (pgd_tup (pgsd_cons (pgd_name 2) (pgsd_cons (pgd_name 3) pgsd_nil)))) (fun s H C cl fp => ptsd_nil) (fun s H C cl fp => (pd_cmp (op_eqD hr.u64) bn_eq (PD.toB (pd_op op_mod bn_mod (PD.toB (pd_op op_mulW bn_mul (PD.toB (pd_ix (PD.toB (pd_var 3)) (PD.toB pd_int))) (PD.toB (pd_var 1)))) (PD.toB (pd_var 2)))) (PD.toB pd_int))) (hv := by rfl))) pab_nil))) (sds_one (sd_ret (PD.toB (pd_var 1)))) sds_nil))) (sds_one (sd_ret (PD.toB pd_non))))
def G__law_multiple : List D → Option D := fun ds => (fFn false 4 m__law_multiple ds (0, 0, 0)).map (·.1)
theorem sc__law_power_in : FnScope ["p", "number", "found", "left"] ["p", "number"] (defScope s__law_power_in) := ⟨rfl, rfl, rfl, by decide +kernel, rfl, by decide +kernel, by decide +kernel⟩
def m__law_power_in : FS := fSeq (fPar [2, 3] (fCons (fC (.int 1)) (fCons (fVar 1) (fNil)))) (fSeq (fWhile (fun ρ => nat0 (ρ.getD 3 none)) (fTst (fB2 dEq (fB2 dMod (fVar 3) (fVar 0)) (fC (.int 0)))) (fPar [2, 3] (fCons (fB2 dMulI (fVar 2) (fVar 0)) (fCons (fB2 dDiv (fVar 3) (fVar 0)) (fNil))))) (fRet (fVar 2)))
theorem w__law_power_in (F : Fun K "_law_power_in" "_law_power_in" s__law_power_in f fd) : FnG P w K mg base CX0 1 f fd ["p", "number"] (spU K T false 2 (fFn false 4 m__law_power_in)) := by
  refine fn_data T false F sc__law_power_in [] rfl fun cdv A outer s H E hcd hr hN => ?_
  exact (sds_cons (sd_par (pam_val pd_int (pam_val (pd_var 1) pam_nil)) 2 3) (sds_cons (sd_while (fun ρ => nat0 (ρ.getD 3 none)) (ptd_cmp (op_eqD hr.u64) bn_eq (PD.toB (pd_op op_mod bn_mod (PD.toB (pd_var 3)) (PD.toB (pd_var 0)))) (PD.toB pd_int)) (sds_one (sd_par (pam_val (pd_op op_mulW bn_mul (PD.toB (pd_var 2)) (PD.toB (pd_var 0))) (pam_val (pd_op op_fdivW bn_div (PD.toB (pd_var 3)) (PD.toB (pd_var 0))) pam_nil)) 2 3))) (sds_one (sd_ret (PD.toB (pd_var 2))))))
def G__law_power_in : List D → Option D := fun ds => (fFn false 4 m__law_power_in ds (0, 0, 0)).map (·.1)
theorem sc__law_zero_power : FnScope ["p", "lot", "found", "d", "a"] ["p", "lot"] (defScope s__law_zero_power) := ⟨rfl, rfl, rfl, by decide +kernel, rfl, by decide +kernel, by decide +kernel⟩
def m__law_zero_power : FS := fSeq (fSet 2 (fLc (fSeqI (fVar 1)) (sTup (sCons (sName 3) (sCons (sName 4) (sNil)))) (fTst (fB2 dEq (fVar 3) (fC (.int 0)))) (fUs (pure1 G__law_power_in) (fCons (fVar 0) (fCons (fB2 dIx (fVar 4) (fC (.int 0))) (fNil)))) [3, 4])) (fRet (fIf (fTst (fB2 dNe (fVar 2) (fLst (fNil)))) (fCall dMinL (fCons (fVar 2) (fNil))) (fC .none)))
theorem w__law_zero_power (F : Fun K "_law_zero_power" "_law_zero_power" s__law_zero_power f fd) (g_min : mg "min" = none) {f__law_power_in : Addr} {fd__law_power_in : FuncData} (F__law_power_in : Fun K "_law_power_in" "_law_power_in" s__law_power_in f__law_power_in fd__law_power_in) (g__law_power_in : mg "_law_power_in" = some (.ref f__law_power_in)) (W__law_power_in : FnG P w K mg base CX0 1 f__law_power_in fd__law_power_in ["p", "number"] (spU K T false 2 (pure1 G__law_power_in))) : FnG P w K mg base CX0 2 f fd ["p", "lot"] (spU K T false 2 (fFn false 5 m__law_zero_power)) := by
  have b__law_power_in : Binds K fd__law_power_in ["p", "number"] [] := F__law_power_in.binds fun _ _ _ _ _ _ us hl => match us, hl with | [_, _], _ => rfl
  refine fn_data T false F sc__law_zero_power [2] rfl fun cdv A outer s H E hcd hr hN => ?_
  exact (sds_cons (sd_setLc (cv := [("d", 3), ("a", 4)]) (b := true) 2 (pid_seq (pd_var 1)) (blkOk_by (by rfl)) (fun s H C cl fp => (pgd_tup (pgsd_cons (pgd_name 3) (pgsd_cons (pgd_name 4) pgsd_nil)))) (fun s H C cl fp => (ptsd_one (ptd_cmp (op_eqD hr.u64) bn_eq (PD.toB (pd_var 3)) (PD.toB pd_int)))) (fun s H C cl fp => (pd_user W__law_power_in (hr.mono (by decide)) g__law_power_in F__law_power_in.kp b__law_power_in (pad_cons (pd_var 0) (pad_cons (pd_ix (PD.toB (pd_var 4)) (PD.toB pd_int)) pad_nil)) (al_cons (al_cons al_nil)))) (by show 2 < 5; decide) (hv := by rfl)) (sds_one (sd_ret (PD.toB (pd_ifExp (ptd_cmp (op_neD hr.u64) bn_ne (pb_own 2) (PF.toB (pf_lst pad_nil))) (pd_callB (cr_min rfl) ca_minL g_min rfl (pab_cons (pb_own 2) pab_nil)) pd_non)))))
def G__law_zero_power : List D → Option D := fun ds => (fFn false 5 m__law_zero_power ds (0, 0, 0)).map (·.1)
theorem sc_law : FnScope ["script", "at", "line", "every", "source", "turn", "p", "own", "zeros", "due", "one", "other", "first", "both", "powers", "lot", "d", "a"] ["script"] (defScope s_law) := ⟨rfl, rfl, rfl, by decide +kernel, rfl, by decide +kernel, by decide +kernel⟩
def m_law (ns : List Int) : FS := fSeq (fAsg (sTup (sCons (sName 2) (sCons (sName 3) (sNil)))) (fTup (fCons (fTup (fCons (fTup (fCons (fTup (fCons (fC (.str "line")) (fNil))) (fCons (fC (.int 1)) (fNil)))) (fNil))) (fCons (fTup (fCons (fTup (fCons (fTup (fCons (fC (.str "all")) (fNil))) (fCons (fC (.int 1)) (fNil)))) (fNil))) (fNil))))) (fSeq (fFor (fRng dRange1 (fCons (fCall dMax2 (fCons (fC (.int 1)) (fCons (fCall dMin2 (fCons (fC (.int 3)) (fCons (fC (.int ns.length)) (fNil)))) (fNil)))) (fNil))) (sName 1) (fTurn 4 ns L__law_source (fVar 1) (fFor (fRng dRange1 (fCons (fC (.int 4)) (fNil))) (sName 5) (fSeq (fPar [10, 11] (fCons (fUs H__law_rows (fCons (fC (.bool false)) (fNil))) (fCons (fUs H__law_rows (fCons (fC (.bool false)) (fNil))) (fNil)))) (fSeq (fPar [12, 13] (fCons (fUs (pure1 G__law_multiple) (fCons (fVar 10) (fNil))) (fCons (fUs (pure1 G__law_multiple) (fCons (fB2 dAdd (fVar 10) (fVar 11)) (fNil))) (fNil)))) (fSeq (fIfS (fNot (fTst (fUs (pure1 G__law_same) (fCons (fLst (fCons (fUs (pure1 G_index_in) (fCons (fVar 2) (fCons (fVar 10) (fCons (fVar 11) (fNil))))) (fCons (fUsK G_index_in 0 3 [2, 1, 0] fNil (fCons (fVar 11) (fCons (fVar 10) (fCons (fVar 2) (fNil))))) (fNil)))) (fCons (fB2 dRep (fLst (fCons (fB2 dDiv (fVar 13) (fVar 12)) (fNil))) (fC (.int 2))) (fNil)))))) (fRet (fC (.bool false))) (fNx)) (fSeq (fFor (fSeqI (fTup (fCons (fC (.int 2)) (fCons (fC (.int 3)) (fCons (fC (.int 5)) (fNil)))))) (sName 6) (fSeq (fSet 14 (fLst (fCons (fUs (pure1 G__law_power_in) (fCons (fVar 6) (fCons (fVar 12) (fNil)))) (fCons (fUs (pure1 G__law_power_in) (fCons (fVar 6) (fCons (fVar 13) (fNil)))) (fNil))))) (fSeq (fIfS (fNot (fTst (fUs (pure1 G__law_same) (fCons (fUs (pure1 G_index_in) (fCons (fTup (fCons (fTup (fCons (fTup (fCons (fC (.str "apart")) (fCons (fVar 6) (fNil)))) (fCons (fC (.int 1)) (fNil)))) (fNil))) (fCons (fVar 10) (fCons (fVar 11) (fNil))))) (fCons (fB2 dDiv (fB2 dIx (fVar 14) (fC (.int 1))) (fB2 dIx (fVar 14) (fC (.int 0)))) (fNil)))))) (fRet (fC (.bool false))) (fNx)) (fIfS (fNot (fTst (fUs (pure1 G__law_same) (fCons (fLst (fCons (fUs (pure1 G_index_in) (fCons (fTup (fCons (fTup (fCons (fTup (fCons (fC (.str "deep")) (fCons (fVar 6) (fNil)))) (fCons (fC (.int 1)) (fNil)))) (fNil))) (fCons (fVar 10) (fCons (fVar 11) (fNil))))) (fCons (fUs (pure1 G_index_in) (fCons (fVar 3) (fCons (fVar 10) (fCons (fVar 11) (fNil))))) (fNil)))) (fCons (fLst (fCons (fC (.int 1)) (fCons (fC (.int 1)) (fNil)))) (fNil)))))) (fRet (fC (.bool false))) (fNx))))) (fSeq (fSet 7 (fB2 dSub (fUs H__law_draw (fCons (fC (.int 400)) (fNil))) (fC (.int 200)))) (fSeq (fIfS (fNot (fTst (fUs (pure1 G__law_same) (fCons (fUs (pure1 G_lot_holds) (fCons (fVar 2) (fCons (fVar 10) (fCons (fTup (fCons (fTup (fCons (fTup (fCons (fVar 7) (fNil))) (fNil))) (fNil))) (fNil))))) (fCons (fB2 dEq (fB2 dMod (fVar 7) (fVar 12)) (fC (.int 0))) (fNil)))))) (fRet (fC (.bool false))) (fNx)) (fSeq (fPar [10, 11] (fCons (fUs H__law_rows (fCons (fC (.bool true)) (fNil))) (fCons (fUs H__law_rows (fCons (fC (.bool true)) (fNil))) (fNil)))) (fSeq (fSet 8 (fLc (fSeqI (fTup (fCons (fVar 10) (fCons (fB2 dAdd (fVar 10) (fVar 11)) (fNil))))) (sName 15) (fYes) (fCall dAnyL (fCons (fLc (fSeqI (fVar 15)) (sTup (sCons (sName 16) (sCons (sName 17) (sNil)))) (fYes) (fB2 dEq (fVar 16) (fC (.int 0))) [16, 17]) (fNil))) [15])) (fSeq (fSet 9 (fIf (fTst (fB2 dEq (fVar 8) (fLst (fCons (fC (.bool false)) (fCons (fC (.bool true)) (fNil)))))) (fC .none) (fC (.int 1)))) (fSeq (fIfS (fOr (fNot (fTst (fUs (pure1 G__law_same) (fCons (fUs (pure1 G_index_in) (fCons (fVar 3) (fCons (fVar 10) (fCons (fVar 11) (fNil))))) (fCons (fVar 9) (fNil)))))) (fAnd (fTst (fB2 dIx (fVar 8) (fC (.int 0)))) (fNot (fTst (fUs (pure1 G__law_same) (fCons (fUs (pure1 G_index_in) (fCons (fVar 2) (fCons (fVar 10) (fCons (fVar 11) (fNil))))) (fCons (fC (.int 1)) (fNil)))))))) (fRet (fC (.bool false))) (fNx)) (fSeq (fIfS (fAnd (fTst (fB2 dEq (fVar 8) (fLst (fCons (fC (.bool false)) (fCons (fC (.bool true)) (fNil)))))) (fOr (fTst (fB2 dNotN (fUs (pure1 G_index_in) (fCons (fVar 2) (fCons (fVar 10) (fCons (fVar 11) (fNil))))) (fC .none))) (fTst (fB2 dNotN (fUs (pure1 G_index_in) (fCons (fTup (fCons (fTup (fCons (fTup (fCons (fC (.str "apart")) (fCons (fC (.int 3)) (fNil)))) (fCons (fC (.int 2)) (fNil)))) (fNil))) (fCons (fVar 10) (fCons (fVar 11) (fNil))))) (fC .none))))) (fRet (fC (.bool false))) (fNx)) (fFor (fSeqI (fTup (fCons (fC (.int 2)) (fCons (fC (.int 3)) (fNil))))) (sName 6) (fSeq (fIfS (fTst (fB2 dIx (fVar 8) (fC (.int 0)))) (fSet 9 (fB2 dDiv (fUs (pure1 G__law_zero_power) (fCons (fVar 6) (fCons (fVar 10) (fNil)))) (fUs (pure1 G__law_zero_power) (fCons (fVar 6) (fCons (fB2 dAdd (fVar 10) (fVar 11)) (fNil)))))) (fNx)) (fIfS (fNot (fTst (fUs (pure1 G__law_same) (fCons (fUs (pure1 G_index_in) (fCons (fTup (fCons (fTup (fCons (fTup (fCons (fC (.str "deep")) (fCons (fVar 6) (fNil)))) (fCons (fC (.int 1)) (fNil)))) (fNil))) (fCons (fVar 10) (fCons (fVar 11) (fNil))))) (fCons (fVar 9) (fNil)))))) (fRet (fC (.bool false))) (fNx)))))))))))))))))) (fRet (fC (.bool true))))
theorem w_law (F : Fun K "law" "law" s_law f fd) (g_len : mg "len" = none) (g_min : mg "min" = none) (g_max : mg "max" = none) (g_range : mg "range" = none) (g_any : mg "any" = none) {f__law_source : Addr} {fd__law_source : FuncData} (F__law_source : Fun K "_law_source" "_law_source" s__law_source f__law_source fd__law_source) (g__law_source : mg "_law_source" = some (.ref f__law_source)) (W__law_source : FnG P w K mg base CX0 1 f__law_source fd__law_source ["script", "k"] (spScr K T 2 L__law_source)) {f__law_rows : Addr} {fd__law_rows : FuncData} (F__law_rows : Fun K "_law_rows" "_law_rows" s__law_rows f__law_rows fd__law_rows) (g__law_rows : mg "_law_rows" = some (.ref f__law_rows)) (W__law_rows : FnG P w K mg base CX0 2 f__law_rows fd__law_rows ["source", "zeros"] (spU K T true 2 H__law_rows)) {f__law_multiple : Addr} {fd__law_multiple : FuncData} (F__law_multiple : Fun K "_law_multiple" "_law_multiple" s__law_multiple f__law_multiple fd__law_multiple) (g__law_multiple : mg "_law_multiple" = some (.ref f__law_multiple)) (W__law_multiple : FnG P w K mg base CX0 1 f__law_multiple fd__law_multiple ["lot"] (spU K T false 1 (pure1 G__law_multiple))) {f__law_same : Addr} {fd__law_same : FuncData} (F__law_same : Fun K "_law_same" "_law_same" s__law_same f__law_same fd__law_same) (g__law_same : mg "_law_same" = some (.ref f__law_same)) (W__law_same : FnG P w K mg base CX0 1 f__law_same fd__law_same ["told", "due"] (spU K T false 2 (pure1 G__law_same))) {f_index_in : Addr} {fd_index_in : FuncData} (F_index_in : Fun K "index_in" "index_in" s_index_in f_index_in fd_index_in) (g_index_in : mg "index_in" = some (.ref f_index_in)) (W_index_in : FnG P w K mg base CX0 12 f_index_in fd_index_in ["group", "one", "other"] (spU K T false 3 (pure1 G_index_in))) {f__law_power_in : Addr} {fd__law_power_in : FuncData} (F__law_power_in : Fun K "_law_power_in" "_law_power_in" s__law_power_in f__law_power_in fd__law_power_in) (g__law_power_in : mg "_law_power_in" = some (.ref f__law_power_in)) (W__law_power_in : FnG P w K mg base CX0 1 f__law_power_in fd__law_power_in ["p", "number"] (spU K T false 2 (pure1 G__law_power_in))) {f__law_draw : Addr} {fd__law_draw : FuncData} (F__law_draw : Fun K "_law_draw" "_law_draw" s__law_draw f__law_draw fd__law_draw) (g__law_draw : mg "_law_draw" = some (.ref f__law_draw)) (W__law_draw : FnG P w K mg base CX0 1 f__law_draw fd__law_draw ["source", "many"] (spU K T true 2 H__law_draw)) {f_lot_holds : Addr} {fd_lot_holds : FuncData} (F_lot_holds : Fun K "lot_holds" "lot_holds" s_lot_holds f_lot_holds fd_lot_holds) (g_lot_holds : mg "lot_holds" = some (.ref f_lot_holds)) (W_lot_holds : FnG P w K mg base CX0 15 f_lot_holds fd_lot_holds ["group", "lot", "points"] (spU K T false 3 (pure1 G_lot_holds))) {f__law_zero_power : Addr} {fd__law_zero_power : FuncData} (F__law_zero_power : Fun K "_law_zero_power" "_law_zero_power" s__law_zero_power f__law_zero_power fd__law_zero_power) (g__law_zero_power : mg "_law_zero_power" = some (.ref f__law_zero_power)) (W__law_zero_power : FnG P w K mg base CX0 2 f__law_zero_power fd__law_zero_power ["p", "lot"] (spU K T false 2 (pure1 G__law_zero_power))) : FnG P w K mg base CX0 16 f fd ["script"] (spScr K T 1 (fScrFn 18 m_law)) := by
  have b__law_source : Binds K fd__law_source ["script", "k"] [] := F__law_source.binds fun _ _ _ _ _ _ us hl => match us, hl with | [_, _], _ => rfl
  have b__law_rows : Binds K fd__law_rows ["source", "zeros"] [] := F__law_rows.binds fun _ _ _ _ _ _ us hl => match us, hl with | [_, _], _ => rfl
  have b__law_multiple : Binds K fd__law_multiple ["lot"] [] := F__law_multiple.binds fun _ _ _ _ _ _ us hl => match us, hl with | [_], _ => rfl
  have b__law_same : Binds K fd__law_same ["told", "due"] [] := F__law_same.binds fun _ _ _ _ _ _ us hl => match us, hl with | [_, _], _ => rfl
  have b_index_in : Binds K fd_index_in ["group", "one", "other"] [] := F_index_in.binds fun _ _ _ _ _ _ us hl => match us, hl with | [_, _, _], _ => rfl
  have b__law_power_in : Binds K fd__law_power_in ["p", "number"] [] := F__law_power_in.binds fun _ _ _ _ _ _ us hl => match us, hl with | [_, _], _ => rfl
  have b__law_draw : Binds K fd__law_draw ["source", "many"] [] := F__law_draw.binds fun _ _ _ _ _ _ us hl => match us, hl with | [_, _], _ => rfl
  have b_lot_holds : Binds K fd_lot_holds ["group", "lot", "points"] [] := F_lot_holds.binds fun _ _ _ _ _ _ us hl => match us, hl with | [_, _, _], _ => rfl
  have b__law_zero_power : Binds K fd__law_zero_power ["p", "lot"] [] := F__law_zero_power.binds fun _ _ _ _ _ _ us hl => match us, hl with | [_, _], _ => rfl
  refine fn_script T F sc_law [14, 8] rfl fun ns cdv A outer s H E hcd hr hN => ?_
  exact (sds_cons (sd_asg (pd_tup (pad_cons (pd_tup (pad_cons (pd_tup (pad_cons (pd_tup (pad_cons pd_str pad_nil)) (pad_cons pd_int pad_nil))) pad_nil)) (pad_cons (pd_tup (pad_cons (pd_tup (pad_cons (pd_tup (pad_cons pd_str pad_nil)) (pad_cons pd_int pad_nil))) pad_nil)) pad_nil))) (pgd_tup (pgsd_cons (pgd_name 2) (pgsd_cons (pgd_name 3) pgsd_nil)))) (sds_cons (sd_for (pid_range1 (pab_cons (PD.toB (pd_callB (call_max2 rfl) ca_max2 g_max rfl (pab_cons (PD.toB pd_int) (pab_cons (PD.toB (pd_callB (call_min2 rfl) ca_min2 g_min rfl (pab_cons (PD.toB pd_int) (pab_cons (PD.toB (pd_scrLen 0 rfl g_len)) pab_nil)))) pab_nil)))) pab_nil) g_range) (pgd_name 1) (sds_turn 0 4 rfl W__law_source (hr.mono (by decide)) g__law_source F__law_source.kp b__law_source (pd_var 1) (sds_one (sd_for (pid_range1 (pab_cons (PD.toB pd_int) pab_nil) g_range) (pgd_name 5) (sds_cons (sd_par (pam_val (pd_userS 4 rfl W__law_rows (hr.mono (by decide)) g__law_rows F__law_rows.kp b__law_rows (pad_cons pd_bl pad_nil) (al_cons al_nil)) (pam_val (pd_userS 4 rfl W__law_rows (hr.mono (by decide)) g__law_rows F__law_rows.kp b__law_rows (pad_cons pd_bl pad_nil) (al_cons al_nil)) pam_nil)) 10 11) (sds_cons (sd_par (pam_val (pd_user W__law_multiple (hr.mono (by decide)) g__law_multiple F__law_multiple.kp b__law_multiple (pad_cons (pd_var 10) pad_nil) (al_cons al_nil)) (pam_val (pd_user W__law_multiple (hr.mono (by decide)) g__law_multiple F__law_multiple.kp b__law_multiple (pad_cons (pd_op op_addD bn_add (PD.toB (pd_var 10)) (PD.toB (pd_var 11))) pad_nil) (al_cons al_nil)) pam_nil)) 12 13) (sds_cons (sd_if (ptd_not (ptd_val (pd_user W__law_same (hr.mono (by decide)) g__law_same F__law_same.kp b__law_same (pad_cons (PF.toD (pf_lst (pad_cons (pd_user W_index_in (hr.mono (by decide)) g_index_in F_index_in.kp b_index_in (pad_cons (pd_var 2) (pad_cons (pd_var 10) (pad_cons (pd_var 11) pad_nil))) (al_cons (al_cons (al_cons al_nil)))) (pad_cons (pd_userK0 W_index_in (hr.mono (by decide)) g_index_in F_index_in.kp (kbinds_of (nu := 0) (π := [2, 1, 0]) (ks := ["other", "one", "group"]) F_index_in (by decide) fun kV doc pm an cdv ct us ws h1 h2 => match us, ws, h1, h2 with | [], [_, _, _], _, _ => rfl) (pkd_cons (pd_var 11) (pkd_cons (pd_var 10) (pkd_cons (pd_var 2) pkd_nil))) (kn_of (by rfl) (by rfl) (by rfl))) pad_nil))) nd_lst) (pad_cons (PF.toD (pf_op op_rep bf_rep (PF.toB (pf_lst (pad_cons (pd_op op_fdivW bn_div (PD.toB (pd_var 13)) (PD.toB (pd_var 12))) pad_nil))) (PD.toB pd_int)) nd_rep) pad_nil)) (al_cons (al_cons al_nil))))) (sds_one (sd_ret (PD.toB pd_bl))) sds_nil) (sds_cons (sd_for (pid_seq (pd_tup (pad_cons pd_int (pad_cons pd_int (pad_cons pd_int pad_nil))))) (pgd_name 6) (sds_cons (sd_setOwn 14 (pf_lst (pad_cons (pd_user W__law_power_in (hr.mono (by decide)) g__law_power_in F__law_power_in.kp b__law_power_in (pad_cons (pd_var 6) (pad_cons (pd_var 12) pad_nil)) (al_cons (al_cons al_nil))) (pad_cons (pd_user W__law_power_in (hr.mono (by decide)) g__law_power_in F__law_power_in.kp b__law_power_in (pad_cons (pd_var 6) (pad_cons (pd_var 13) pad_nil)) (al_cons (al_cons al_nil))) pad_nil))) (hlen := by show 14 < 18; decide)) (sds_cons (sd_if (ptd_not (ptd_val (pd_user W__law_same (hr.mono (by decide)) g__law_same F__law_same.kp b__law_same (pad_cons (pd_user W_index_in (hr.mono (by decide)) g_index_in F_index_in.kp b_index_in (pad_cons (pd_tup (pad_cons (pd_tup (pad_cons (pd_tup (pad_cons pd_str (pad_cons (pd_var 6) pad_nil))) (pad_cons pd_int pad_nil))) pad_nil)) (pad_cons (pd_var 10) (pad_cons (pd_var 11) pad_nil))) (al_cons (al_cons (al_cons al_nil)))) (pad_cons (pd_op op_fdivW bn_div (PD.toB (pd_ix (pb_own 14) (PD.toB pd_int))) (PD.toB (pd_ix (pb_own 14) (PD.toB pd_int)))) pad_nil)) (al_cons (al_cons al_nil))))) (sds_one (sd_ret (PD.toB pd_bl))) sds_nil) (sds_one (sd_if (ptd_not (ptd_val (pd_user W__law_same (hr.mono (by decide)) g__law_same F__law_same.kp b__law_same (pad_cons (PF.toD (pf_lst (pad_cons (pd_user W_index_in (hr.mono (by decide)) g_index_in F_index_in.kp b_index_in (pad_cons (pd_tup (pad_cons (pd_tup (pad_cons (pd_tup (pad_cons pd_str (pad_cons (pd_var 6) pad_nil))) (pad_cons pd_int pad_nil))) pad_nil)) (pad_cons (pd_var 10) (pad_cons (pd_var 11) pad_nil))) (al_cons (al_cons (al_cons al_nil)))) (pad_cons (pd_user W_index_in (hr.mono (by decide)) g_index_in F_index_in.kp b_index_in (pad_cons (pd_var 3) (pad_cons (pd_var 10) (pad_cons (pd_var 11) pad_nil))) (al_cons (al_cons (al_cons al_nil)))) pad_nil))) nd_lst) (pad_cons (PF.toD (pf_lst (pad_cons pd_int (pad_cons pd_int pad_nil))) nd_lst) pad_nil)) (al_cons (al_cons al_nil))))) (sds_one (sd_ret (PD.toB pd_bl))) sds_nil))))) (sds_cons (sd_set 7 (pd_op op_sub bn_sub (PD.toB (pd_userS 4 rfl W__law_draw (hr.mono (by decide)) g__law_draw F__law_draw.kp b__law_draw (pad_cons pd_int pad_nil) (al_cons al_nil))) (PD.toB pd_int))) (sds_cons (sd_if (ptd_not (ptd_val (pd_user W__law_same (hr.mono (by decide)) g__law_same F__law_same.kp b__law_same (pad_cons (pd_user W_lot_holds (hr.mono (by decide)) g_lot_holds F_lot_holds.kp b_lot_holds (pad_cons (pd_var 2) (pad_cons (pd_var 10) (pad_cons (pd_tup (pad_cons (pd_tup (pad_cons (pd_tup (pad_cons (pd_var 7) pad_nil)) pad_nil)) pad_nil)) pad_nil))) (al_cons (al_cons (al_cons al_nil)))) (pad_cons (pd_cmp (op_eqD hr.u64) bn_eq (PD.toB (pd_op op_mod bn_mod (PD.toB (pd_var 7)) (PD.toB (pd_var 12)))) (PD.toB pd_int)) pad_nil)) (al_cons (al_cons al_nil))))) (sds_one (sd_ret (PD.toB pd_bl))) sds_nil) (sds_cons (sd_par (pam_val (pd_userS 4 rfl W__law_rows (hr.mono (by decide)) g__law_rows F__law_rows.kp b__law_rows (pad_cons pd_bl pad_nil) (al_cons al_nil)) (pam_val (pd_userS 4 rfl W__law_rows (hr.mono (by decide)) g__law_rows F__law_rows.kp b__law_rows (pad_cons pd_bl pad_nil) (al_cons al_nil)) pam_nil)) 10 11) (sds_cons (sd_setLc (cv := [("lot", 15)]) (b := true) 8 (pid_seq (pd_tup (pad_cons (pd_var 10) (pad_cons (pd_op op_addD bn_add (PD.toB (pd_var 10)) (PD.toB (pd_var 11))) pad_nil)))) (blkOk_by (by rfl)) (fun s H C cl fp => (pgd_name 15)) (fun s H C cl fp => ptsd_nil) (fun s H C cl fp => (pd_callB (cr_any rfl) ca_anyL g_any rfl (pab_cons (PF.toB (pf_lc (cv := [("d", 16), ("a", 17)]) (b := true) (pid_seq (pd_var 15)) (blkOk_by (by rfl)) (fun s H C cl fp => (pgd_tup (pgsd_cons (pgd_name 16) (pgsd_cons (pgd_name 17) pgsd_nil)))) (fun s H C cl fp => ptsd_nil) (fun s H C cl fp => (pd_cmp (op_eqD hr.u64) bn_eq (PD.toB (pd_var 16)) (PD.toB pd_int))) (hv := by rfl))) pab_nil))) (by show 8 < 18; decide) (hv := by rfl)) (sds_cons (sd_set 9 (pd_ifExp (ptd_cmp (op_eqD hr.u64) bn_eq (pb_own 8) (PF.toB (pf_lst (pad_cons pd_bl (pad_cons pd_bl pad_nil))))) pd_non pd_int)) (sds_cons (sd_if (PWD.toT (pwd_or (ptd_not (ptd_val (pd_user W__law_same (hr.mono (by decide)) g__law_same F__law_same.kp b__law_same (pad_cons (pd_user W_index_in (hr.mono (by decide)) g_index_in F_index_in.kp b_index_in (pad_cons (pd_var 3) (pad_cons (pd_var 10) (pad_cons (pd_var 11) pad_nil))) (al_cons (al_cons (al_cons al_nil)))) (pad_cons (pd_var 9) pad_nil)) (al_cons (al_cons al_nil))))) (pwd_or1 (PWD.toT (pwd_and (ptd_val (pd_ix (pb_own 8) (PD.toB pd_int))) (pwd_and1 (ptd_not (ptd_val (pd_user W__law_same (hr.mono (by decide)) g__law_same F__law_same.kp b__law_same (pad_cons (pd_user W_index_in (hr.mono (by decide)) g_index_in F_index_in.kp b_index_in (pad_cons (pd_var 2) (pad_cons (pd_var 10) (pad_cons (pd_var 11) pad_nil))) (al_cons (al_cons (al_cons al_nil)))) (pad_cons pd_int pad_nil)) (al_cons (al_cons al_nil))))))))))) (sds_one (sd_ret (PD.toB pd_bl))) sds_nil) (sds_cons (sd_if (PWD.toT (pwd_and (ptd_cmp (op_eqD hr.u64) bn_eq (pb_own 8) (PF.toB (pf_lst (pad_cons pd_bl (pad_cons pd_bl pad_nil))))) (pwd_and1 (PWD.toT (pwd_or (ptd_cmp (op_notN) bn_notN (PD.toB (pd_user W_index_in (hr.mono (by decide)) g_index_in F_index_in.kp b_index_in (pad_cons (pd_var 2) (pad_cons (pd_var 10) (pad_cons (pd_var 11) pad_nil))) (al_cons (al_cons (al_cons al_nil))))) (PD.toB pd_non)) (pwd_or1 (ptd_cmp (op_notN) bn_notN (PD.toB (pd_user W_index_in (hr.mono (by decide)) g_index_in F_index_in.kp b_index_in (pad_cons (pd_tup (pad_cons (pd_tup (pad_cons (pd_tup (pad_cons pd_str (pad_cons pd_int pad_nil))) (pad_cons pd_int pad_nil))) pad_nil)) (pad_cons (pd_var 10) (pad_cons (pd_var 11) pad_nil))) (al_cons (al_cons (al_cons al_nil))))) (PD.toB pd_non)))))))) (sds_one (sd_ret (PD.toB pd_bl))) sds_nil) (sds_one (sd_for (pid_seq (pd_tup (pad_cons pd_int (pad_cons pd_int pad_nil)))) (pgd_name 6) (sds_cons (sd_if (ptd_val (pd_ix (pb_own 8) (PD.toB pd_int))) (sds_one (sd_set 9 (pd_op op_fdivW bn_div (PD.toB (pd_user W__law_zero_power (hr.mono (by decide)) g__law_zero_power F__law_zero_power.kp b__law_zero_power (pad_cons (pd_var 6) (pad_cons (pd_var 10) pad_nil)) (al_cons (al_cons al_nil)))) (PD.toB (pd_user W__law_zero_power (hr.mono (by decide)) g__law_zero_power F__law_zero_power.kp b__law_zero_power (pad_cons (pd_var 6) (pad_cons (pd_op op_addD bn_add (PD.toB (pd_var 10)) (PD.toB (pd_var 11))) pad_nil)) (al_cons (al_cons al_nil))))))) sds_nil) (sds_one (sd_if (ptd_not (ptd_val (pd_user W__law_same (hr.mono (by decide)) g__law_same F__law_same.kp b__law_same (pad_cons (pd_user W_index_in (hr.mono (by decide)) g_index_in F_index_in.kp b_index_in (pad_cons (pd_tup (pad_cons (pd_tup (pad_cons (pd_tup (pad_cons pd_str (pad_cons (pd_var 6) pad_nil))) (pad_cons pd_int pad_nil))) pad_nil)) (pad_cons (pd_var 10) (pad_cons (pd_var 11) pad_nil))) (al_cons (al_cons (al_cons al_nil)))) (pad_cons (pd_var 9) pad_nil)) (al_cons (al_cons al_nil))))) (sds_one (sd_ret (PD.toB pd_bl))) sds_nil)))))))))))))))))))) (sds_one (sd_ret (PD.toB pd_bl)))))
def L_law : List Int → List D → Option D := fScrFn 18 m_law
end
end Law
namespace Law
open PySem PySem.Spec PyProof.Rows L2 GX DL
theorem fun_of {K : PySem.W.Frag} {x qual : Str} {st : Stmt} {f : Addr} {fd : FuncData} (F : FunD K x qual (defArgs st) (defBody st) (defScope st) [] [] f fd) : Fun K x qual st f fd := by
  obtain ⟨oc, od, dV, kV, doc, pm, an, cdv, ct, osl, h1, h2, h3, h4, h5⟩ := F.ex
  have e : dV = .none := by
    rcases h4 with ⟨_, e⟩ | ⟨e, _⟩
    · exact e
    · exact absurd rfl e
  subst e
  exact ⟨⟨oc, od, kV, doc, pm, an, cdv, ct, osl, h1, h2, h3⟩, F.kp⟩
theorem code_of {K : PySem.W.Frag} {x qual : Str} {pr : Arguments} {bd : List Stmt} {sc : Scope} {dvs : List V} {kws : List (Str × V)} {p : He.Defn} {fd : FuncData} (F : FunD K x qual pr bd sc dvs kws (He.fAd K p) fd) : fd.code = .ref (He.cT K p).1 := by
  obtain ⟨oc, od, dV, kV, doc, pm, an, cdv, ct, osl, h1, h2, h3, _⟩ := F.ex
  obtain ⟨cc, rfl⟩ := He.codeIn_ref h3
  have e : fd.code = .ref cc := by rw [h1]
  rw [e]
  exact congrArg Value.ref (He.codeOf_eq h2 e).symm
theorem kc_int {K : PySem.W.Frag} {mg : Str → Option Value} {x : Str} {i : Int} (h : ∃ t, mg x = some (.int i t)) : KC K mg x (.int i) := by
  obtain ⟨t, e⟩ := h
  exact ⟨.int i, _, e, ⟨t, rfl⟩, fun F => .int i⟩
theorem kc_tup {K : PySem.W.Frag} {mg : Str → Option Value} {x : Str} {vs : List He.Dv} {ds : List D} (h : He.tupB K x vs = true) (hg : mg x = some (.ref (He.ga K x))) (hd : ∀ F, DenAll K F (vs.map (He.Dv.v K)) ds) (np : pl ds = false) : KC K mg x (.tuple ds) :=
  ⟨.ref (He.ga K x), _, hg, rfl, fun F => .tup (He.tupB_ok h F) (hd F) fun z => by rw [np] at z; cases z⟩
theorem facts {P : Program} {w : World} {K : PySem.W.Frag} {h : Heap} {mg : Str → Option Value} {f : Addr} (X : K.In h) (G : h.Ns mainGlobals mg) (hfa : mg ("law" : Str) = some (.ref f)) (c : He.SaysX fa fn [] tf ex w h K) :
    ∃ fd : FuncData, (∀ (s : Shared) (u : Value), BindsTo s fd ⟨[u], []⟩ [("script", u)]) ∧ ∀ base : Heap, K.In base → base.Ns mainGlobals mg → (∀ t ∈ tf.map (He.cT K), GxR.TabB base mg t.1 t.2) →
      FnG P w K mg base CX0 16 f fd ["script"] (spScr K (fun a => a ∈ (tf.map (He.cT K)).map (·.2)) 1 L_law) := by
  have cd := c.t.d
  obtain ⟨fd_is_integer, D_is_integer⟩ := cd.def_ 0 (d := d_is_integer) rfl
  have F_is_integer := fun_of (x := "is_integer") (qual := "is_integer") (st := s_is_integer) D_is_integer
  have g_is_integer := He.glo_ok X G (cd.fact 0 (f := .glo "is_integer") rfl)
  obtain ⟨fd_is_natural, D_is_natural⟩ := cd.def_ 1 (d := d_is_natural) rfl
  have F_is_natural := fun_of (x := "is_natural") (qual := "is_natural") (st := s_is_natural) D_is_natural
  have g_is_natural := He.glo_ok X G (cd.fact 1 (f := .glo "is_natural") rfl)
  obtain ⟨fd_are_integers, D_are_integers⟩ := cd.def_ 3 (d := d_are_integers) rfl
  have F_are_integers := fun_of (x := "are_integers") (qual := "are_integers") (st := s_are_integers) D_are_integers
  have g_are_integers := He.glo_ok X G (cd.fact 3 (f := .glo "are_integers") rfl)
  obtain ⟨fd_is_ascending, D_is_ascending⟩ := cd.def_ 4 (d := d_is_ascending) rfl
  have F_is_ascending := fun_of (x := "is_ascending") (qual := "is_ascending") (st := s_is_ascending) D_is_ascending
  have g_is_ascending := He.glo_ok X G (cd.fact 4 (f := .glo "is_ascending") rfl)
  obtain ⟨fd_exponent_of, D_exponent_of⟩ := cd.def_ 5 (d := d_exponent_of) rfl
  have F_exponent_of := fun_of (x := "exponent_of") (qual := "exponent_of") (st := s_exponent_of) D_exponent_of
  have g_exponent_of := He.glo_ok X G (cd.fact 5 (f := .glo "exponent_of") rfl)
  obtain ⟨fd_prime_powers, D_prime_powers⟩ := cd.def_ 6 (d := d_prime_powers) rfl
  have F_prime_powers := fun_of (x := "prime_powers") (qual := "prime_powers") (st := s_prime_powers) D_prime_powers
  have g_prime_powers := He.glo_ok X G (cd.fact 6 (f := .glo "prime_powers") rfl)
  obtain ⟨fd_is_prime, D_is_prime⟩ := cd.def_ 7 (d := d_is_prime) rfl
  have F_is_prime := fun_of (x := "is_prime") (qual := "is_prime") (st := s_is_prime) D_is_prime
  have g_is_prime := He.glo_ok X G (cd.fact 7 (f := .glo "is_prime") rfl)
  obtain ⟨fd_is_a_prime, D_is_a_prime⟩ := cd.def_ 10 (d := d_is_a_prime) rfl
  have F_is_a_prime := fun_of (x := "is_a_prime") (qual := "is_a_prime") (st := s_is_a_prime) D_is_a_prime
  have g_is_a_prime := He.glo_ok X G (cd.fact 10 (f := .glo "is_a_prime") rfl)
  obtain ⟨fd_is_part_in, D_is_part_in⟩ := cd.def_ 11 (d := d_is_part_in) rfl
  have F_is_part_in := fun_of (x := "is_part_in") (qual := "is_part_in") (st := s_is_part_in) D_is_part_in
  have g_is_part_in := He.glo_ok X G (cd.fact 11 (f := .glo "is_part_in") rfl)
  obtain ⟨fd_is_counted, D_is_counted⟩ := cd.def_ 12 (d := d_is_counted) rfl
  have F_is_counted := fun_of (x := "is_counted") (qual := "is_counted") (st := s_is_counted) D_is_counted
  have g_is_counted := He.glo_ok X G (cd.fact 12 (f := .glo "is_counted") rfl)
  obtain ⟨fd_is_group_in, D_is_group_in⟩ := cd.def_ 13 (d := d_is_group_in) rfl
  have F_is_group_in := fun_of (x := "is_group_in") (qual := "is_group_in") (st := s_is_group_in) D_is_group_in
  have g_is_group_in := He.glo_ok X G (cd.fact 13 (f := .glo "is_group_in") rfl)
  obtain ⟨fd_check_group, D_check_group⟩ := cd.def_ 14 (d := d_check_group) rfl
  have F_check_group := fun_of (x := "check_group") (qual := "check_group") (st := s_check_group) D_check_group
  have g_check_group := He.glo_ok X G (cd.fact 14 (f := .glo "check_group") rfl)
  obtain ⟨fd_is_value, D_is_value⟩ := cd.def_ 18 (d := d_is_value) rfl
  have F_is_value := fun_of (x := "is_value") (qual := "is_value") (st := s_is_value) D_is_value
  have g_is_value := He.glo_ok X G (cd.fact 18 (f := .glo "is_value") rfl)
  obtain ⟨fd_zero_value, D_zero_value⟩ := cd.def_ 19 (d := d_zero_value) rfl
  have F_zero_value := fun_of (x := "zero_value") (qual := "zero_value") (st := s_zero_value) D_zero_value
  have g_zero_value := He.glo_ok X G (cd.fact 19 (f := .glo "zero_value") rfl)
  obtain ⟨fd_plus_value, D_plus_value⟩ := cd.def_ 20 (d := d_plus_value) rfl
  have F_plus_value := fun_of (x := "plus_value") (qual := "plus_value") (st := s_plus_value) D_plus_value
  have g_plus_value := He.glo_ok X G (cd.fact 20 (f := .glo "plus_value") rfl)
  obtain ⟨fd_times_value, D_times_value⟩ := cd.def_ 21 (d := d_times_value) rfl
  have F_times_value := fun_of (x := "times_value") (qual := "times_value") (st := s_times_value) D_times_value
  have g_times_value := He.glo_ok X G (cd.fact 21 (f := .glo "times_value") rfl)
  obtain ⟨fd_divided_value, D_divided_value⟩ := cd.def_ 24 (d := d_divided_value) rfl
  have F_divided_value := fun_of (x := "divided_value") (qual := "divided_value") (st := s_divided_value) D_divided_value
  have g_divided_value := He.glo_ok X G (cd.fact 24 (f := .glo "divided_value") rfl)
  obtain ⟨fd_are_values, D_are_values⟩ := cd.def_ 25 (d := d_are_values) rfl
  have F_are_values := fun_of (x := "are_values") (qual := "are_values") (st := s_are_values) D_are_values
  have g_are_values := He.glo_ok X G (cd.fact 25 (f := .glo "are_values") rfl)
  obtain ⟨fd_is_element_in, D_is_element_in⟩ := cd.def_ 26 (d := d_is_element_in) rfl
  have F_is_element_in := fun_of (x := "is_element_in") (qual := "is_element_in") (st := s_is_element_in) D_is_element_in
  have g_is_element_in := He.glo_ok X G (cd.fact 26 (f := .glo "is_element_in") rfl)
  obtain ⟨fd_trimmed, D_trimmed⟩ := cd.def_ 27 (d := d_trimmed) rfl
  have F_trimmed := fun_of (x := "trimmed") (qual := "trimmed") (st := s_trimmed) D_trimmed
  have g_trimmed := He.glo_ok X G (cd.fact 27 (f := .glo "trimmed") rfl)
  obtain ⟨fd_zero_in, D_zero_in⟩ := cd.def_ 28 (d := d_zero_in) rfl
  have F_zero_in := fun_of (x := "zero_in") (qual := "zero_in") (st := s_zero_in) D_zero_in
  have g_zero_in := He.glo_ok X G (cd.fact 28 (f := .glo "zero_in") rfl)
  obtain ⟨fd_filled, D_filled⟩ := cd.def_ 29 (d := d_filled) rfl
  have F_filled := fun_of (x := "filled") (qual := "filled") (st := s_filled) D_filled
  have g_filled := He.glo_ok X G (cd.fact 29 (f := .glo "filled") rfl)
  obtain ⟨fd_plus_in, D_plus_in⟩ := cd.def_ 30 (d := d_plus_in) rfl
  have F_plus_in := fun_of (x := "plus_in") (qual := "plus_in") (st := s_plus_in) D_plus_in
  have g_plus_in := He.glo_ok X G (cd.fact 30 (f := .glo "plus_in") rfl)
  obtain ⟨fd_times_in, D_times_in⟩ := cd.def_ 31 (d := d_times_in) rfl
  have F_times_in := fun_of (x := "times_in") (qual := "times_in") (st := s_times_in) D_times_in
  have g_times_in := He.glo_ok X G (cd.fact 31 (f := .glo "times_in") rfl)
  obtain ⟨fd_divided_in, D_divided_in⟩ := cd.def_ 32 (d := d_divided_in) rfl
  have F_divided_in := fun_of (x := "divided_in") (qual := "divided_in") (st := s_divided_in) D_divided_in
  have g_divided_in := He.glo_ok X G (cd.fact 32 (f := .glo "divided_in") rfl)
  obtain ⟨fd_sum_in, D_sum_in⟩ := cd.def_ 33 (d := d_sum_in) rfl
  have F_sum_in := fun_of (x := "sum_in") (qual := "sum_in") (st := s_sum_in) D_sum_in
  have g_sum_in := He.glo_ok X G (cd.fact 33 (f := .glo "sum_in") rfl)
  obtain ⟨fd_is_row_in, D_is_row_in⟩ := cd.def_ 34 (d := d_is_row_in) rfl
  have F_is_row_in := fun_of (x := "is_row_in") (qual := "is_row_in") (st := s_is_row_in) D_is_row_in
  have g_is_row_in := He.glo_ok X G (cd.fact 34 (f := .glo "is_row_in") rfl)
  obtain ⟨fd_is_lot_in, D_is_lot_in⟩ := cd.def_ 35 (d := d_is_lot_in) rfl
  have F_is_lot_in := fun_of (x := "is_lot_in") (qual := "is_lot_in") (st := s_is_lot_in) D_is_lot_in
  have g_is_lot_in := He.glo_ok X G (cd.fact 35 (f := .glo "is_lot_in") rfl)
  obtain ⟨fd_check_lot, D_check_lot⟩ := cd.def_ 36 (d := d_check_lot) rfl
  have F_check_lot := fun_of (x := "check_lot") (qual := "check_lot") (st := s_check_lot) D_check_lot
  have g_check_lot := He.glo_ok X G (cd.fact 36 (f := .glo "check_lot") rfl)
  obtain ⟨fd_raised, D_raised⟩ := cd.def_ 37 (d := d_raised) rfl
  have F_raised := fun_of (x := "raised") (qual := "raised") (st := s_raised) D_raised
  have g_raised := He.glo_ok X G (cd.fact 37 (f := .glo "raised") rfl)
  obtain ⟨fd_holds_in, D_holds_in⟩ := cd.def_ 38 (d := d_holds_in) rfl
  have F_holds_in := fun_of (x := "holds_in") (qual := "holds_in") (st := s_holds_in) D_holds_in
  have g_holds_in := He.glo_ok X G (cd.fact 38 (f := .glo "holds_in") rfl)
  obtain ⟨fd_are_elements_in, D_are_elements_in⟩ := cd.def_ 39 (d := d_are_elements_in) rfl
  have F_are_elements_in := fun_of (x := "are_elements_in") (qual := "are_elements_in") (st := s_are_elements_in) D_are_elements_in
  have g_are_elements_in := He.glo_ok X G (cd.fact 39 (f := .glo "are_elements_in") rfl)
  obtain ⟨fd_lot_holds, D_lot_holds⟩ := cd.def_ 40 (d := d_lot_holds) rfl
  have F_lot_holds := fun_of (x := "lot_holds") (qual := "lot_holds") (st := s_lot_holds) D_lot_holds
  have g_lot_holds := He.glo_ok X G (cd.fact 40 (f := .glo "lot_holds") rfl)
  obtain ⟨fd_makes_zero, D_makes_zero⟩ := cd.def_ 41 (d := d_makes_zero) rfl
  have F_makes_zero := fun_of (x := "makes_zero") (qual := "makes_zero") (st := s_makes_zero) D_makes_zero
  have g_makes_zero := He.glo_ok X G (cd.fact 41 (f := .glo "makes_zero") rfl)
  obtain ⟨fd_multiple_in, D_multiple_in⟩ := cd.def_ 42 (d := d_multiple_in) rfl
  have F_multiple_in := fun_of (x := "multiple_in") (qual := "multiple_in") (st := s_multiple_in) D_multiple_in
  have g_multiple_in := He.glo_ok X G (cd.fact 42 (f := .glo "multiple_in") rfl)
  obtain ⟨fd_exponent_in, D_exponent_in⟩ := cd.def_ 43 (d := d_exponent_in) rfl
  have F_exponent_in := fun_of (x := "exponent_in") (qual := "exponent_in") (st := s_exponent_in) D_exponent_in
  have g_exponent_in := He.glo_ok X G (cd.fact 43 (f := .glo "exponent_in") rfl)
  obtain ⟨fd_torsion_in, D_torsion_in⟩ := cd.def_ 44 (d := d_torsion_in) rfl
  have F_torsion_in := fun_of (x := "torsion_in") (qual := "torsion_in") (st := s_torsion_in) D_torsion_in
  have g_torsion_in := He.glo_ok X G (cd.fact 44 (f := .glo "torsion_in") rfl)
  obtain ⟨fd_greatest_exponent, D_greatest_exponent⟩ := cd.def_ 45 (d := d_greatest_exponent) rfl
  have F_greatest_exponent := fun_of (x := "greatest_exponent") (qual := "greatest_exponent") (st := s_greatest_exponent) D_greatest_exponent
  have g_greatest_exponent := He.glo_ok X G (cd.fact 45 (f := .glo "greatest_exponent") rfl)
  obtain ⟨fd_index_of_line, D_index_of_line⟩ := cd.def_ 46 (d := d_index_of_line) rfl
  have F_index_of_line := fun_of (x := "index_of_line") (qual := "index_of_line") (st := s_index_of_line) D_index_of_line
  have g_index_of_line := He.glo_ok X G (cd.fact 46 (f := .glo "index_of_line") rfl)
  obtain ⟨fd_index_of_part, D_index_of_part⟩ := cd.def_ 47 (d := d_index_of_part) rfl
  have F_index_of_part := fun_of (x := "index_of_part") (qual := "index_of_part") (st := s_index_of_part) D_index_of_part
  have g_index_of_part := He.glo_ok X G (cd.fact 47 (f := .glo "index_of_part") rfl)
  obtain ⟨fd_index_of, D_index_of⟩ := cd.def_ 48 (d := d_index_of) rfl
  have F_index_of := fun_of (x := "index_of") (qual := "index_of") (st := s_index_of) D_index_of
  have g_index_of := He.glo_ok X G (cd.fact 48 (f := .glo "index_of") rfl)
  obtain ⟨fd_index_in, D_index_in⟩ := cd.def_ 49 (d := d_index_in) rfl
  have F_index_in := fun_of (x := "index_in") (qual := "index_in") (st := s_index_in) D_index_in
  have g_index_in := He.glo_ok X G (cd.fact 49 (f := .glo "index_in") rfl)
  obtain ⟨fd__law_source, D__law_source⟩ := cd.def_ 50 (d := d__law_source) rfl
  have F__law_source := fun_of (x := "_law_source") (qual := "_law_source") (st := s__law_source) D__law_source
  have g__law_source := He.glo_ok X G (cd.fact 50 (f := .glo "_law_source") rfl)
  obtain ⟨fd__law_draw, D__law_draw⟩ := cd.def_ 51 (d := d__law_draw) rfl
  have F__law_draw := fun_of (x := "_law_draw") (qual := "_law_draw") (st := s__law_draw) D__law_draw
  have g__law_draw := He.glo_ok X G (cd.fact 51 (f := .glo "_law_draw") rfl)
  obtain ⟨fd__law_same, D__law_same⟩ := cd.def_ 52 (d := d__law_same) rfl
  have F__law_same := fun_of (x := "_law_same") (qual := "_law_same") (st := s__law_same) D__law_same
  have g__law_same := He.glo_ok X G (cd.fact 52 (f := .glo "_law_same") rfl)
  obtain ⟨fd__law_rows, D__law_rows⟩ := cd.def_ 54 (d := d__law_rows) rfl
  have F__law_rows := fun_of (x := "_law_rows") (qual := "_law_rows") (st := s__law_rows) D__law_rows
  have g__law_rows := He.glo_ok X G (cd.fact 54 (f := .glo "_law_rows") rfl)
  obtain ⟨fd__law_multiple, D__law_multiple⟩ := cd.def_ 55 (d := d__law_multiple) rfl
  have F__law_multiple := fun_of (x := "_law_multiple") (qual := "_law_multiple") (st := s__law_multiple) D__law_multiple
  have g__law_multiple := He.glo_ok X G (cd.fact 55 (f := .glo "_law_multiple") rfl)
  obtain ⟨fd__law_power_in, D__law_power_in⟩ := cd.def_ 56 (d := d__law_power_in) rfl
  have F__law_power_in := fun_of (x := "_law_power_in") (qual := "_law_power_in") (st := s__law_power_in) D__law_power_in
  have g__law_power_in := He.glo_ok X G (cd.fact 56 (f := .glo "_law_power_in") rfl)
  obtain ⟨fd__law_zero_power, D__law_zero_power⟩ := cd.def_ 57 (d := d__law_zero_power) rfl
  have F__law_zero_power := fun_of (x := "_law_zero_power") (qual := "_law_zero_power") (st := s__law_zero_power) D__law_zero_power
  have g__law_zero_power := He.glo_ok X G (cd.fact 57 (f := .glo "_law_zero_power") rfl)
  obtain ⟨fd_law, D_law⟩ := cd.def_ 58 (d := d_law) rfl
  have F_law := fun_of (x := "law") (qual := "law") (st := s_law) D_law
  have g_law := He.glo_ok X G (cd.fact 58 (f := .glo "law") rfl)
  have g_isinstance := He.free_ok X G (cd.fact 68 (f := .free "isinstance") rfl)
  have g_int := He.free_ok X G (cd.fact 67 (f := .free "int") rfl)
  have g_bool := He.free_ok X G (cd.fact 66 (f := .free "bool") rfl)
  have g_tuple := He.free_ok X G (cd.fact 76 (f := .free "tuple") rfl)
  have g_len := He.free_ok X G (cd.fact 69 (f := .free "len") rfl)
  have g_all := He.free_ok X G (cd.fact 64 (f := .free "all") rfl)
  have g_zip := He.free_ok X G (cd.fact 77 (f := .free "zip") rfl)
  have g_str := He.free_ok X G (cd.fact 75 (f := .free "str") rfl)
  have g_list := He.free_ok X G (cd.fact 70 (f := .free "list") rfl)
  have g_max := He.free_ok X G (cd.fact 71 (f := .free "max") rfl)
  have g_range := He.free_ok X G (cd.fact 73 (f := .free "range") rfl)
  have g_any := He.free_ok X G (cd.fact 65 (f := .free "any") rfl)
  have g_min := He.free_ok X G (cd.fact 72 (f := .free "min") rfl)
  have g_abs := He.free_ok X G (cd.fact 63 (f := .free "abs") rfl)
  have g_repr := He.free_ok X G (cd.fact 74 (f := .free "repr") rfl)
  have hx := c.more
  unfold ex at hx
  simp only [Bool.and_eq_true] at hx
  obtain ⟨⟨t_WHOLE, t_BY_PRIME⟩, j_gcd⟩ := hx
  have i_gcd : mg "gcd" = some (.builtin "math.gcd") := PySem.W.mg_of X G (of_decide_eq_true j_gcd)
  have k_WHOLE : KC K mg "WHOLE" c_WHOLE := kc_tup t_WHOLE (He.glo_ok X G (cd.fact 60 (f := .glo "WHOLE") rfl)) (fun F => .cons (.str _) (.cons (.str _) (.nil))) rfl
  have k_BY_PRIME : KC K mg "BY_PRIME" c_BY_PRIME := kc_tup t_BY_PRIME (He.glo_ok X G (cd.fact 61 (f := .glo "BY_PRIME") rfl)) (fun F => .cons (.str _) (.cons (.str _) (.nil))) rfl
  have k_EVER : KC K mg "EVER" c_EVER := kc_int (He.int_ok X G (cd.fact 59 (f := .int "EVER" (-1)) rfl))
  have k_MOST_LETTERS : KC K mg "MOST_LETTERS" c_MOST_LETTERS := kc_int (He.int_ok X G (cd.fact 62 (f := .int "MOST_LETTERS" 3) rfl))
  have e := hfa.symm.trans g_law
  cases e
  have b := FunD.bindsA (ps := ["script"]) D_law fun _ _ _ _ _ _ us hl => match us, hl with | [_], _ => rfl
  refine ⟨fd_law, fun s v => b s [v] rfl, fun base kb nb tb => ?_⟩
  generalize hT : (fun a => a ∈ (tf.map (He.cT K)).map (·.2)) = T
  have tT : ∀ p ∈ tf, T (He.cT K p).2 := fun p hp => by rw [← hT]; exact List.mem_map_of_mem (List.mem_map_of_mem hp)
  have W_is_integer := fn_pure (w_is_integer (P := P) (w := w) (mg := mg) (base := base) (T := T) F_is_integer g_isinstance g_int g_bool)
  have W_is_natural := fn_pure (w_is_natural (P := P) (w := w) (mg := mg) (base := base) (T := T) F_is_natural F_is_integer g_is_integer W_is_integer)
  have W_are_integers := fn_pure (w_are_integers (P := P) (w := w) (mg := mg) (base := base) (T := T) F_are_integers g_isinstance g_tuple g_len g_all (code_of D_are_integers) (tb _ (List.mem_map_of_mem (show ((("are_integers" : Str), (none : Option Str)) : He.Defn) ∈ tf from by decide))) (tT _ (show ((("are_integers" : Str), (none : Option Str)) : He.Defn) ∈ tf from by decide)) F_is_integer g_is_integer W_is_integer)
  have W_is_ascending := fn_pure (w_is_ascending (P := P) (w := w) (mg := mg) (base := base) (T := T) F_is_ascending g_zip g_all (code_of D_is_ascending) (tb _ (List.mem_map_of_mem (show ((("is_ascending" : Str), (none : Option Str)) : He.Defn) ∈ tf from by decide))) (tT _ (show ((("is_ascending" : Str), (none : Option Str)) : He.Defn) ∈ tf from by decide)))
  have W_exponent_of := fn_pure (w_exponent_of (P := P) (w := w) (mg := mg) (base := base) (T := T) F_exponent_of)
  have W_prime_powers := fn_pure (w_prime_powers (P := P) (w := w) (mg := mg) (base := base) (T := T) F_prime_powers F_exponent_of g_exponent_of W_exponent_of)
  have W_is_prime := fn_pure (w_is_prime (P := P) (w := w) (mg := mg) (base := base) (T := T) F_is_prime F_prime_powers g_prime_powers W_prime_powers)
  have W_is_a_prime := fn_pure (w_is_a_prime (P := P) (w := w) (mg := mg) (base := base) (T := T) F_is_a_prime F_is_integer g_is_integer W_is_integer F_is_prime g_is_prime W_is_prime)
  have W_is_part_in := fn_pure (w_is_part_in (P := P) (w := w) (mg := mg) (base := base) (T := T) F_is_part_in g_isinstance g_tuple g_len g_str k_WHOLE k_BY_PRIME F_is_a_prime g_is_a_prime W_is_a_prime F_is_integer g_is_integer W_is_integer)
  have W_is_counted := fn_pure (w_is_counted (P := P) (w := w) (mg := mg) (base := base) (T := T) F_is_counted g_isinstance g_tuple g_len k_EVER F_is_part_in g_is_part_in W_is_part_in F_is_integer g_is_integer W_is_integer)
  have W_is_group_in := fn_pure (w_is_group_in (P := P) (w := w) (mg := mg) (base := base) (T := T) F_is_group_in g_isinstance g_tuple g_all (code_of D_is_group_in) (tb _ (List.mem_map_of_mem (show ((("is_group_in" : Str), (none : Option Str)) : He.Defn) ∈ tf from by decide))) (tT _ (show ((("is_group_in" : Str), (none : Option Str)) : He.Defn) ∈ tf from by decide)) F_is_counted g_is_counted W_is_counted F_is_ascending g_is_ascending W_is_ascending)
  have W_check_group := fn_pure (w_check_group (P := P) (w := w) (mg := mg) (base := base) (T := T) F_check_group F_is_group_in g_is_group_in W_is_group_in)
  have W_is_value := fn_pure (w_is_value (P := P) (w := w) (mg := mg) (base := base) (T := T) F_is_value F_is_integer g_is_integer W_is_integer)
  have W_zero_value := fn_pure (w_zero_value (P := P) (w := w) (mg := mg) (base := base) (T := T) F_zero_value)
  have W_plus_value := fn_pure (w_plus_value (P := P) (w := w) (mg := mg) (base := base) (T := T) F_plus_value)
  have W_times_value := fn_pure (w_times_value (P := P) (w := w) (mg := mg) (base := base) (T := T) F_times_value)
  have W_divided_value := fn_pure (w_divided_value (P := P) (w := w) (mg := mg) (base := base) (T := T) F_divided_value)
  have W_are_values := fn_pure (w_are_values (P := P) (w := w) (mg := mg) (base := base) (T := T) F_are_values g_isinstance g_tuple g_all g_len k_EVER (code_of D_are_values) (tb _ (List.mem_map_of_mem (show ((("are_values" : Str), (none : Option Str)) : He.Defn) ∈ tf from by decide))) (tT _ (show ((("are_values" : Str), (none : Option Str)) : He.Defn) ∈ tf from by decide)) F_is_value g_is_value W_is_value)
  have W_is_element_in := fn_pure (w_is_element_in (P := P) (w := w) (mg := mg) (base := base) (T := T) F_is_element_in g_isinstance g_tuple g_len g_zip g_all (code_of D_is_element_in) (tb _ (List.mem_map_of_mem (show ((("is_element_in" : Str), (none : Option Str)) : He.Defn) ∈ tf from by decide))) (tT _ (show ((("is_element_in" : Str), (none : Option Str)) : He.Defn) ∈ tf from by decide)) F_are_values g_are_values W_are_values)
  have W_trimmed := fn_pure (w_trimmed (P := P) (w := w) (mg := mg) (base := base) (T := T) F_trimmed g_list g_len g_tuple k_EVER F_zero_value g_zero_value W_zero_value)
  have W_zero_in := fn_pure (w_zero_in (P := P) (w := w) (mg := mg) (base := base) (T := T) F_zero_in g_max g_tuple F_zero_value g_zero_value W_zero_value)
  have W_filled := fn_pure (w_filled (P := P) (w := w) (mg := mg) (base := base) (T := T) F_filled g_list g_len F_zero_value g_zero_value W_zero_value)
  have W_plus_in := fn_pure (w_plus_in (P := P) (w := w) (mg := mg) (base := base) (T := T) F_plus_in g_zip g_len g_max g_tuple F_trimmed g_trimmed W_trimmed F_filled g_filled W_filled F_plus_value g_plus_value W_plus_value)
  have W_times_in := fn_pure (w_times_in (P := P) (w := w) (mg := mg) (base := base) (T := T) F_times_in g_zip g_tuple F_trimmed g_trimmed W_trimmed F_times_value g_times_value W_times_value)
  have W_divided_in := fn_pure (w_divided_in (P := P) (w := w) (mg := mg) (base := base) (T := T) F_divided_in g_zip g_tuple F_divided_value g_divided_value W_divided_value F_trimmed g_trimmed W_trimmed)
  have W_sum_in := fn_pure (w_sum_in (P := P) (w := w) (mg := mg) (base := base) (T := T) F_sum_in g_zip F_zero_in g_zero_in W_zero_in F_plus_in g_plus_in W_plus_in F_times_in g_times_in W_times_in)
  have W_is_row_in := fn_pure (w_is_row_in (P := P) (w := w) (mg := mg) (base := base) (T := T) F_is_row_in g_isinstance g_tuple g_len F_is_natural g_is_natural W_is_natural F_are_integers g_are_integers W_are_integers)
  have W_is_lot_in := fn_pure (w_is_lot_in (P := P) (w := w) (mg := mg) (base := base) (T := T) F_is_lot_in g_isinstance g_tuple g_all (code_of D_is_lot_in) (tb _ (List.mem_map_of_mem (show ((("is_lot_in" : Str), (none : Option Str)) : He.Defn) ∈ tf from by decide))) (tT _ (show ((("is_lot_in" : Str), (none : Option Str)) : He.Defn) ∈ tf from by decide)) F_is_row_in g_is_row_in W_is_row_in)
  have W_check_lot := fn_pure (w_check_lot (P := P) (w := w) (mg := mg) (base := base) (T := T) F_check_lot F_is_lot_in g_is_lot_in W_is_lot_in)
  have W_raised := fn_pure (w_raised (P := P) (w := w) (mg := mg) (base := base) (T := T) F_raised g_range)
  have W_holds_in := fn_pure (w_holds_in (P := P) (w := w) (mg := mg) (base := base) (T := T) F_holds_in g_all (code_of D_holds_in) (tb _ (List.mem_map_of_mem (show ((("holds_in" : Str), (none : Option Str)) : He.Defn) ∈ tf from by decide))) (tT _ (show ((("holds_in" : Str), (none : Option Str)) : He.Defn) ∈ tf from by decide)) F_divided_in g_divided_in W_divided_in F_sum_in g_sum_in W_sum_in)
  have W_are_elements_in := fn_pure (w_are_elements_in (P := P) (w := w) (mg := mg) (base := base) (T := T) F_are_elements_in g_isinstance g_tuple g_len g_all (code_of D_are_elements_in) (tb _ (List.mem_map_of_mem (show ((("are_elements_in" : Str), (none : Option Str)) : He.Defn) ∈ tf from by decide))) (tT _ (show ((("are_elements_in" : Str), (none : Option Str)) : He.Defn) ∈ tf from by decide)) F_is_element_in g_is_element_in W_is_element_in)
  have W_lot_holds := fn_pure (w_lot_holds (P := P) (w := w) (mg := mg) (base := base) (T := T) F_lot_holds g_isinstance g_tuple g_len k_MOST_LETTERS F_check_group g_check_group W_check_group F_are_elements_in g_are_elements_in W_are_elements_in F_check_lot g_check_lot W_check_lot F_holds_in g_holds_in W_holds_in)
  have W_makes_zero := fn_pure (w_makes_zero (P := P) (w := w) (mg := mg) (base := base) (T := T) F_makes_zero g_any (code_of D_makes_zero) (tb _ (List.mem_map_of_mem (show ((("makes_zero" : Str), (none : Option Str)) : He.Defn) ∈ tf from by decide))) (tT _ (show ((("makes_zero" : Str), (none : Option Str)) : He.Defn) ∈ tf from by decide)))
  have W_multiple_in := fn_pure (w_multiple_in (P := P) (w := w) (mg := mg) (base := base) (T := T) F_multiple_in i_gcd F_makes_zero g_makes_zero W_makes_zero)
  have W_exponent_in := fn_pure (w_exponent_in (P := P) (w := w) (mg := mg) (base := base) (T := T) F_exponent_in g_min g_max F_exponent_of g_exponent_of W_exponent_of)
  have W_torsion_in := fn_pure (w_torsion_in (P := P) (w := w) (mg := mg) (base := base) (T := T) F_torsion_in g_min F_exponent_of g_exponent_of W_exponent_of)
  have W_greatest_exponent := fn_pure (w_greatest_exponent (P := P) (w := w) (mg := mg) (base := base) (T := T) F_greatest_exponent g_max F_exponent_of g_exponent_of W_exponent_of)
  have W_index_of_line := fn_pure (w_index_of_line (P := P) (w := w) (mg := mg) (base := base) (T := T) F_index_of_line F_multiple_in g_multiple_in W_multiple_in)
  have W_index_of_part := fn_pure (w_index_of_part (P := P) (w := w) (mg := mg) (base := base) (T := T) F_index_of_part F_index_of_line g_index_of_line W_index_of_line F_raised g_raised W_raised F_exponent_in g_exponent_in W_exponent_in F_makes_zero g_makes_zero W_makes_zero F_torsion_in g_torsion_in W_torsion_in F_greatest_exponent g_greatest_exponent W_greatest_exponent)
  have W_index_of := fn_pure (w_index_of (P := P) (w := w) (mg := mg) (base := base) (T := T) F_index_of k_EVER F_index_of_part g_index_of_part W_index_of_part F_raised g_raised W_raised)
  have W_index_in := fn_pure (w_index_in (P := P) (w := w) (mg := mg) (base := base) (T := T) F_index_in F_check_group g_check_group W_check_group F_check_lot g_check_lot W_check_lot F_index_of g_index_of W_index_of)
  have W__law_source := w__law_source (P := P) (w := w) (mg := mg) (base := base) (T := T) F__law_source g_len g_int g_abs g_max
  have W__law_draw := w__law_draw (P := P) (w := w) (mg := mg) (base := base) (T := T) F__law_draw g_int
  have W__law_same := fn_pure (w__law_same (P := P) (w := w) (mg := mg) (base := base) (T := T) F__law_same g_repr)
  have W__law_rows := w__law_rows (P := P) (w := w) (mg := mg) (base := base) (T := T) F__law_rows g_range g_tuple F__law_draw g__law_draw W__law_draw
  have W__law_multiple := fn_pure (w__law_multiple (P := P) (w := w) (mg := mg) (base := base) (T := T) F__law_multiple g_range g_all)
  have W__law_power_in := fn_pure (w__law_power_in (P := P) (w := w) (mg := mg) (base := base) (T := T) F__law_power_in)
  have W__law_zero_power := fn_pure (w__law_zero_power (P := P) (w := w) (mg := mg) (base := base) (T := T) F__law_zero_power g_min F__law_power_in g__law_power_in W__law_power_in)
  exact w_law (P := P) (w := w) (mg := mg) (base := base) (T := T) F_law g_len g_min g_max g_range g_any F__law_source g__law_source W__law_source F__law_rows g__law_rows W__law_rows F__law_multiple g__law_multiple W__law_multiple F__law_same g__law_same W__law_same F_index_in g_index_in W_index_in F__law_power_in g__law_power_in W__law_power_in F__law_draw g__law_draw W__law_draw F_lot_holds g_lot_holds W_lot_holds F__law_zero_power g__law_zero_power W__law_zero_power
end Law
/-! Plain laws: loops over data, sorted lists that are given in order, dicts by their places. -/
namespace DL
open PySem PySem.Spec PyProof.Rows L2 GX Ord
theorem fLoop_ok {set : D → Env → Option Env} {body : FS} {I : Nat → Env → Src → Prop} : ∀ (ds : List D) (n : Nat) (ρ : Env) (s : Src), I n ρ s →
    (∀ k d ρ s, ds[k]? = some d → I (n + k) ρ s → ∃ ρ1 fl ρ' s', set d ρ = some ρ1 ∧ body ρ1 s = some (fl, ρ', s') ∧ (fl = .nx ∨ fl = .ct) ∧ I (n + k + 1) ρ' s') →
    ∃ ρ' s', fLoop set body ds ρ s = some (.nx, ρ', s') ∧ I (n + ds.length) ρ' s'
  | [], n, ρ, s, h, _ => ⟨ρ, s, rfl, h⟩
  | d :: r, n, ρ, s, h, q => by
    obtain ⟨ρ1, fl, ρ2, s2, h1, h2, h3, h4⟩ := q 0 d ρ s rfl h
    obtain ⟨ρ3, s3, h5, h6⟩ := fLoop_ok (set := set) (body := body) (I := I) r (n + 1) ρ2 s2 h4 fun k d' ρ' s' e i => by
      have := q (k + 1) d' ρ' s' e (by rw [show n + (k + 1) = n + 1 + k from by omega]; exact i)
      rw [show n + (k + 1) + 1 = n + 1 + k + 1 from by omega] at this
      exact this
    refine ⟨ρ3, s3, ?_, by rw [List.length_cons, show n + (r.length + 1) = n + 1 + r.length from by omega]; exact h6⟩
    unfold fLoop
    rw [h1, Option.bind_some, h2, Option.bind_some]
    rcases h3 with rfl | rfl
    · exact h5
    · exact h5
theorem lc_ok {set : D → Env → Option Env} {t : FT} {fe : FE} {ρ : Env} {s : Src} (p : D → Bool) (f : D → D) : ∀ (ds : List D), (∀ d ∈ ds, ∃ ρ1, set d ρ = some ρ1 ∧ t ρ1 s = some (p d, s) ∧ (p d = true → fe ρ1 s = some (f d, s))) → lcLoop set t fe ρ ds s = some ((ds.filter p).map f, s)
  | [], _ => rfl
  | d :: r, h => by
    obtain ⟨ρ1, h1, h2, h3⟩ := h d List.mem_cons_self
    have ih := lc_ok p f r fun e he => h e (List.mem_cons_of_mem _ he)
    unfold lcLoop
    rw [h1, Option.bind_some, h2, Option.bind_some, List.filter_cons]
    cases e : p d with
    | true =>
      rw [if_pos rfl, h3 e, Option.bind_some, ih, if_pos rfl]
      rfl
    | false =>
      rw [if_neg Bool.false_ne_true, ih, if_neg Bool.false_ne_true]
theorem g_ok {want : Bool} {set : D → Env → Option Env} {fe : FE} {ρ : Env} {s : Src} (p : D → Bool) : ∀ (ds : List D), (∀ d ∈ ds, ∃ ρ1, set d ρ = some ρ1 ∧ fe ρ1 s = some (.bool (p d), s)) → gLoop want set fe ρ ds s = some (if want = true then ds.any p else ds.all p, s)
  | [], _ => by cases want <;> rfl
  | d :: r, h => by
    obtain ⟨ρ1, h1, h2⟩ := h d List.mem_cons_self
    have ih := g_ok (want := want) p r fun e he => h e (List.mem_cons_of_mem _ he)
    unfold gLoop
    rw [h1, Option.bind_some, h2, Option.bind_some, List.any_cons, List.all_cons]
    dsimp only
    rw [ih]
    cases want <;> cases p d <;> rfl
theorem g_map {α : Type} {want : Bool} {set : D → Env → Option Env} {fe : FE} {ρ : Env} {s : Src} (f : α → D) (p : α → Bool) : ∀ (l : List α), (∀ x ∈ l, ∃ ρ1, set (f x) ρ = some ρ1 ∧ fe ρ1 s = some (.bool (p x), s)) → gLoop want set fe ρ (l.map f) s = some (if want = true then l.any p else l.all p, s)
  | [], _ => by cases want <;> rfl
  | d :: r, h => by
    obtain ⟨ρ1, h1, h2⟩ := h d List.mem_cons_self
    have ih := g_map (want := want) f p r fun e he => h e (List.mem_cons_of_mem _ he)
    rw [List.map_cons]
    unfold gLoop
    rw [h1, Option.bind_some, h2, Option.bind_some, List.any_cons, List.all_cons]
    dsimp only
    rw [ih]
    cases want <;> cases p d <;> rfl
theorem lc_map {α : Type} {set : D → Env → Option Env} {t : FT} {fe : FE} {ρ : Env} {s : Src} (g : α → D) (p : α → Bool) (f : α → D) : ∀ (l : List α), (∀ x ∈ l, ∃ ρ1, set (g x) ρ = some ρ1 ∧ t ρ1 s = some (p x, s) ∧ (p x = true → fe ρ1 s = some (f x, s))) → lcLoop set t fe ρ (l.map g) s = some ((l.filter p).map f, s)
  | [], _ => rfl
  | d :: r, h => by
    obtain ⟨ρ1, h1, h2, h3⟩ := h d List.mem_cons_self
    have ih := lc_map g p f r fun e he => h e (List.mem_cons_of_mem _ he)
    rw [List.map_cons]
    unfold lcLoop
    rw [h1, Option.bind_some, h2, Option.bind_some, List.filter_cons]
    cases e : p d with
    | true =>
      rw [if_pos rfl, h3 e, Option.bind_some, ih, if_pos rfl]
      rfl
    | false =>
      rw [if_neg Bool.false_ne_true, ih, if_neg Bool.false_ne_true]
theorem perm_small {α : Type} {l m : List α} (h : l.Perm m) (hl : m.length ≤ 1) : l = m := by
  match m, hl with
  | [], _ => exact List.perm_nil.mp h
  | [x], _ => exact List.perm_singleton.mp h
theorem sortD_strict {l m : List D} (hp : m.Perm l) (hs : m.Pairwise fun x y => olt x y = true) : sortD l = m := by
  refine (sortD_uniq ?_ ⟨hp, fun x => ?_⟩).symm
  · exact hs.imp fun {a b} h => olt_swo.asym a b h
  · refine (perm_small (hp.filter _).symm ?_).symm
    have h2 := List.Pairwise.filter (SrtO.eqv olt x) hs
    match e : m.filter (SrtO.eqv olt x), h2 with
    | [], _ => exact Nat.zero_le _
    | [a], _ => exact Nat.le_refl _
    | a :: b :: r, h2 =>
      have ha : a ∈ m.filter (SrtO.eqv olt x) := by rw [e]; exact List.mem_cons_self
      have hb : b ∈ m.filter (SrtO.eqv olt x) := by rw [e]; exact List.mem_cons_of_mem _ List.mem_cons_self
      have ea := SrtO.eqv_iff.mp (List.mem_filter.mp ha).2
      have eb := SrtO.eqv_iff.mp (List.mem_filter.mp hb).2
      have hab : olt a b = true := (List.pairwise_cons.mp h2).1 b List.mem_cons_self
      have := olt_swo.lelt ea.2 hab
      rw [eb.1] at this
      cases this
end DL
namespace Law
open PySem PySem.Spec PyProof.Rows L2 GX DL Ord
/-! the parts that are drawn, in their order -/
def PT : List D := [.tuple [.str "all"]] ++ [2, 3, 5, 7, 11].map (fun p => .tuple [.str "apart", .int p]) ++ [2, 3, 5, 7, 11].map (fun p => .tuple [.str "deep", .int p]) ++ [.tuple [.str "line"]] ++
  ([2, 3, 5, 7, 11].map (fun p => [1, 2, 3, 4].map (fun k => PyData.tuple [.str "ring", .int p, .int k]))).flatten
def P (i : Nat) : D := PT.getD i .none
def KK (i : Nat) : List L2.Key := (keyOf (P i)).getD []
def eqB (d : Option D) (b : Bool) : Bool := match d with
  | some (.bool c) => c == b
  | _ => false
theorem eqB_eq {d : Option D} {b : Bool} (h : eqB d b = true) : d = some (.bool b) := by
  unfold eqB at h
  split at h
  · rw [beq_iff_eq.mp h]
  · cases h
theorem all32 {p : Nat → Bool} (h : (List.range 32).all p = true) {i : Nat} (hi : i < 32) : p i = true := List.all_eq_true.mp h i (List.mem_range.mpr hi)
theorem all32' {p : Nat → Nat → Bool} (h : ((List.range 32).all fun i => (List.range 32).all (p i)) = true) {i j : Nat} (hi : i < 32) (hj : j < 32) : p i j = true := all32 (all32 h hi) hj
theorem f_part {i : Nat} (hi : i < 32) : G_is_part_in [P i] = some (.bool true) := eqB_eq (all32 (p := fun i => eqB (G_is_part_in [P i]) true) (by decide +kernel) hi)
def tsB : D → Bool
  | .tuple (.str _ :: _) => true
  | _ => false
theorem f_ts {i : Nat} (hi : i < 32) : ∃ x r, P i = .tuple (.str x :: r) := by
  have h := all32 (p := fun i => tsB (P i)) (by decide +kernel) hi
  unfold tsB at h
  split at h
  · exact ⟨_, _, by assumption⟩
  · cases h
theorem f_key {i : Nat} (hi : i < 32) : keyOf (P i) = some (KK i) := by
  have h := all32 (p := fun i => (keyOf (P i)).isSome) (by decide +kernel) hi
  unfold KK
  cases e : keyOf (P i) with
  | none => rw [e] at h; cases h
  | some k => rfl
theorem f_keyD {i : Nat} (hi : i < 32) : P i = tkeyD (KK i) := keyOf_tkeyD (f_key hi)
theorem f_inj {i j : Nat} (hi : i < 32) (hj : j < 32) : KK i = KK j ↔ i = j := by
  have h := all32' (p := fun i j => decide (KK i = KK j) == (i == j)) (by decide +kernel) hi hj
  have h := beq_iff_eq.mp h
  constructor
  · intro e
    rw [decide_eq_true e] at h
    exact beq_iff_eq.mp h.symm
  · intro e
    rw [beq_iff_eq.mpr e] at h
    exact of_decide_eq_true h
theorem f_eqv {i j : Nat} (hi : i < 32) (hj : j < 32) : PyData.eqv (P i) (P j) = (i == j) := beq_iff_eq.mp (all32' (p := fun i j => PyData.eqv (P i) (P j) == (i == j)) (by decide +kernel) hi hj)
theorem f_cmp {i j : Nat} (hi : i < 32) (hj : j < 32) : cmpD (P i) (P j) = true := all32' (p := fun i j => cmpD (P i) (P j)) (by decide +kernel) hi hj
theorem f_ok {i : Nat} (hi : i < 32) : okD (P i) = true := all32 (p := fun i => okD (P i)) (by decide +kernel) hi
theorem f_lt {i j : Nat} (hi : i < 32) (hj : j < 32) : ltD (P i) (P j) = decide (i < j) := beq_iff_eq.mp (all32' (p := fun i j => ltD (P i) (P j) == decide (i < j)) (by decide +kernel) hi hj)
theorem f_dep {i : Nat} (hi : i < 32) : (P i).depth = 1 := beq_iff_eq.mp (all32 (p := fun i => (P i).depth == 1) (by decide +kernel) hi)
theorem f_show {i : Nat} (hi : i < 32) : (P i).showable = true ∧ (P i).shown.length ≤ 30 := by
  have h := all32 (p := fun i => (P i).showable && decide ((P i).shown.length ≤ 30)) (by decide +kernel) hi
  rw [Bool.and_eq_true, decide_eq_true_eq] at h
  exact h
theorem f_olt {i j : Nat} (hi : i < 32) (hj : j < 32) (h : i < j) : olt (P i) (P j) = true := by
  rw [olt_ltD (okD_iff.mp (f_ok hi)).1 (okD_iff.mp (f_ok hj)).1 (f_cmp hi hj) (by rw [f_eqv hi hj]; simp; omega), f_lt hi hj]
  exact decide_eq_true h
/-! groups as data -/
abbrev Gr := Nat → Option Int
def it (x : Nat × Int) : D := .tuple [P x.1, .int x.2]
def its (f : Gr) : List (Nat × Int) := (List.range 32).filterMap fun i => (f i).map fun m => (i, m)
def gD (f : Gr) : D := .tuple ((its f).map it)
def okV (m : Int) : Prop := m = -1 ∨ (1 ≤ m ∧ m ≤ 64)
def OkF (f : Gr) : Prop := ∀ i m, i < 32 → f i = some m → okV m
theorem mem_its {f : Gr} {i : Nat} {m : Int} : (i, m) ∈ its f ↔ i < 32 ∧ f i = some m := by
  unfold its
  rw [List.mem_filterMap]
  constructor
  · rintro ⟨j, hj, e⟩
    cases h : f j with
    | none => rw [h] at e; cases e
    | some n =>
      rw [h] at e
      cases e
      exact ⟨List.mem_range.mp hj, h⟩
  · rintro ⟨h1, h2⟩
    exact ⟨i, List.mem_range.mpr h1, by rw [h2]; rfl⟩
theorem its_lt {f : Gr} {x : Nat × Int} (h : x ∈ its f) : x.1 < 32 := (mem_its.mp h).1
theorem its_sorted (f : Gr) : (its f).Pairwise fun x y => x.1 < y.1 := by
  unfold its
  rw [List.pairwise_filterMap]
  refine List.pairwise_lt_range.imp fun {a b} h x hx y hy => ?_
  cases h1 : f a with
  | none => rw [h1] at hx; cases hx
  | some m =>
    cases h2 : f b with
    | none => rw [h2] at hy; cases hy
    | some n =>
      rw [h1] at hx
      rw [h2] at hy
      cases hx
      cases hy
      exact h
theorem its_len (f : Gr) : (its f).length ≤ 32 := by
  have := List.length_filterMap_le (fun i => (f i).map fun m => (i, m)) (List.range 32)
  rw [List.length_range] at this
  exact this
theorem its_congr {f g : Gr} (h : ∀ i, i < 32 → f i = g i) : its f = its g := by
  unfold its
  have : ∀ l : List Nat, (∀ i ∈ l, i < 32) → l.filterMap (fun i => (f i).map fun m => (i, m)) = l.filterMap (fun i => (g i).map fun m => (i, m)) := fun l => by
    induction l with
    | nil => intro _; rfl
    | cons a r ih =>
      intro hl
      rw [List.filterMap_cons, List.filterMap_cons, h a (hl a List.mem_cons_self), ih fun i hi => hl i (List.mem_cons_of_mem _ hi)]
  exact this _ fun i hi => List.mem_range.mp hi
theorem dLtD_P {i j : Nat} (hi : i < 32) (hj : j < 32) : dLtD (P i) (P j) = some (.bool (decide (i < j))) := by
  unfold dLtD
  rw [if_pos ⟨f_ok hi, f_ok hj, f_cmp hi hj⟩, f_lt hi hj]
theorem P_tup {i : Nat} (hi : i < 32) : ∃ r, P i = .tuple r := let ⟨_, _, h⟩ := f_ts hi; ⟨_, h⟩
theorem dIsi_P {i : Nat} (hi : i < 32) : dIsi "tuple" (P i) = some (.bool true) := by
  obtain ⟨x, r, h⟩ := f_ts hi
  rw [h]; rfl
theorem counted_ok {i : Nat} {m : Int} (hi : i < 32) (hm : okV m) : G_is_counted [it (i, m)] = some (.bool true) := by
  have h1 := f_part hi
  have h2 : G_is_integer [.int m] = some (.bool true) := rfl
  have h3 : dIsi "tuple" (.tuple [P i, .int m]) = some (.bool true) := rfl
  have h4 : shp (.int m) = true := rfl
  have h5 : shp (.int 2) = true := rfl
  have h6 : shp c_EVER = true := rfl
  have h7 : PyData.eqv (.int m) c_EVER = (m == -1) := rfl
  have h8 : PyData.eqv (.int 2) (.int 2) = true := rfl
  rcases hm with rfl | ⟨hm, _⟩
  · simp [G_is_counted, fFn, m_is_counted, fSeq, fIfS, fOr, fNot, fTst, fU1, fVar, fB2, fCall, fCons, fNil, fC, fUs, pure1, fVal, fRet, fNx, fnOut, isDict, dLen, dIx, dNe, dEq, dGt, dI, h1, h2, h3, h4, h5, h6, h7, h8, it, atI, ixN]
  · have h9 : (0 : Int) < m := by omega
    simp [G_is_counted, fFn, m_is_counted, fSeq, fIfS, fOr, fNot, fTst, fU1, fVar, fB2, fCall, fCons, fNil, fC, fUs, pure1, fVal, fRet, fNx, fnOut, isDict, dLen, dIx, dNe, dEq, dGt, dI, h1, h2, h3, h4, h5, h6, h7, h8, it, atI, ixN, h9]
theorem zip_tail {α : Type} {R : α → α → Prop} : ∀ {l : List α}, l.Pairwise R → ∀ p ∈ l.zip l.tail, R p.1 p.2
  | [], _, _, h => by cases h
  | [a], _, _, h => by simp at h
  | a :: b :: r, h, p, hp => by
    rw [List.tail_cons, List.zip_cons_cons] at hp
    obtain ⟨h1, h2⟩ := List.pairwise_cons.mp h
    rcases List.mem_cons.mp hp with e | e
    · rw [e]; exact h1 b List.mem_cons_self
    · exact zip_tail (l := b :: r) h2 p e
theorem pl_PP {i j : Nat} (hi : i < 32) : pl [P i, P j] = false := by
  obtain ⟨x, r, h⟩ := f_ts hi
  rw [h]
  rfl
theorem cut1 (l : List D) : cutD l (some 1) none = l.tail := by
  unfold DL.cutD
  cases l with
  | nil => rfl
  | cons a r =>
    have e1 : HT.sIx (a :: r).length 0 (some 1) = 1 := by
      simp [HT.sIx]
      try omega
    have e2 : HT.sIx (a :: r).length (a :: r).length none = (a :: r).length := by
      simp [HT.sIx]
    rw [e1, e2]
    simp
/-- a list of parts in their order is ascending -/
theorem asc_ok {l : List Nat} (hl : ∀ i ∈ l, i < 32) (hs : l.Pairwise (· < ·)) : G_is_ascending [.list (l.map P)] = some (.bool true) := by
  have hz : ∀ p ∈ l.zip l.tail, p.1 < p.2 ∧ p.1 < 32 ∧ p.2 < 32 := fun p hp => ⟨zip_tail hs p hp, hl _ (List.of_mem_zip hp).1, hl _ (List.mem_of_mem_tail (List.of_mem_zip hp).2)⟩
  have ez : zipD (l.map P) ((l.map P).tail) = (l.zip l.tail).map fun p => .tuple [P p.1, P p.2] := by
    unfold zipD
    rw [← List.map_tail, List.zip_map, List.map_map]
    rfl
  have np : noPl (zipD (l.map P) ((l.map P).tail)) = true := by
    rw [ez]
    unfold noPl
    rw [List.all_map, List.all_eq_true]
    intro p hp
    show (!pl [P p.1, P p.2]) = true
    rw [pl_PP (hz p hp).2.1]
    rfl
  have hg : ∀ s : Src, gLoop false (sTup (sCons (sName 1) (sCons (sName 2) sNil))) (fB2 dLtD (fVar 1) (fVar 2)) [some (.list (l.map P)), none, none] (zipD (l.map P) ((l.map P).tail)) s = some (true, s) := fun s => by
    rw [g_ok (fun _ => true)]
    · rw [if_neg Bool.false_ne_true, List.all_eq_true.mpr fun _ _ => rfl]
    · intro d hd
      rw [ez] at hd
      obtain ⟨p, hp, rfl⟩ := List.mem_map.mp hd
      obtain ⟨h1, h2, h3⟩ := hz p hp
      refine ⟨[some (.list (l.map P)), some (P p.1), some (P p.2)], rfl, ?_⟩
      have e := dLtD_P h2 h3
      rw [decide_eq_true h1] at e
      simp [fB2, fVar, e]
  have hd : dZip [.list (l.map P), .list ((l.map P).tail)] = some (zipD (l.map P) ((l.map P).tail)) := by
    show (if noPl (zipD (l.map P) ((l.map P).tail)) = true then some _ else none) = _
    rw [if_pos np]
  simp only [G_is_ascending, fFn, m_is_ascending, fRet, fQ, fRng, fSl, fPart, fNoPart, fCons, fNil, fVar, fC, dSlL, cut1, wipeE, Bool.false_eq_true, if_false, List.nil_append, List.map_cons, List.map_nil, List.cons_append, List.length_cons, List.length_nil, List.replicate, List.getD_cons_zero, Option.map_some, Option.bind_some, hd, List.set_cons_succ, List.set_cons_zero, hg, isDict, fnOut]
theorem shp_list {l : List D} : shp (.list l) = SeqAt.shaped (.list l) := by
  show (SeqAt.shaped (.list l) && !isDict (.list l)) = _
  simp [isDict]
theorem it_tup (x : Nat × Int) : it x = .tuple [P x.1, .int x.2] := rfl
/-- it is a group -/
theorem group_ok {f : Gr} (h : OkF f) : G_is_group_in [gD f] = some (.bool true) := by
  have hall : ∀ s : Src, gLoop false (sName 3) (fUs (pure1 G_is_counted) (fCons (fVar 3) fNil)) [some (gD f), none, none, none] ((its f).map it) s = some (true, s) := fun s => by
    rw [g_ok (fun _ => true)]
    · rw [if_neg Bool.false_ne_true, List.all_eq_true.mpr fun _ _ => rfl]
    · intro d hd
      obtain ⟨⟨i, m⟩, hx, rfl⟩ := List.mem_map.mp hd
      obtain ⟨hi, hm⟩ := mem_its.mp hx
      refine ⟨[some (gD f), none, none, some (it (i, m))], rfl, ?_⟩
      have e := counted_ok hi (h i m hi hm)
      simp [fUs, pure1, fCons, fNil, fVar, e]
  have hlc : ∀ s : Src, lcLoop (sTup (sCons (sName 1) (sCons (sName 2) sNil))) fYes (fVar 1) [some (gD f), none, none, none] ((its f).map it) s = some (((its f).map (·.1)).map P, s) := fun s => by
    rw [lc_ok (fun _ => true) (fun d => match d with | .tuple (p :: _) => p | _ => .none)]
    · rw [List.filter_eq_self.mpr fun _ _ => rfl, List.map_map, List.map_map]
      rfl
    · intro d hd
      obtain ⟨x, hx, rfl⟩ := List.mem_map.mp hd
      exact ⟨[some (gD f), some (P x.1), some (.int x.2), none], rfl, rfl, fun _ => rfl⟩
  have hlen : ((its f).map it).length ≤ 1000000 := by
    rw [List.length_map]
    have := its_len f
    omega
  have hasc := asc_ok (l := (its f).map (·.1)) (fun i hi => by
    obtain ⟨x, hx, rfl⟩ := List.mem_map.mp hi
    exact its_lt hx) (List.pairwise_map.mpr (its_sorted f))
  have hty : dIsi "tuple" (gD f) = some (.bool true) := rfl
  have hit : DL.itemsD (gD f) = some ((its f).map it) := rfl
  simp only [G_is_group_in, fFn, m_is_group_in, fSeq, fIfS, fOr, fNot, fTst, fU1, hty, fQ, fSeqI, hit, fRet, fUs, pure1, fLc, fCons, fNil, fVar, fC, fNx, wipeE, Bool.false_eq_true, if_false, if_true, List.nil_append, List.map_cons, List.map_nil, List.cons_append, List.length_cons, List.length_nil, List.replicate, List.getD_cons_zero, Option.map_some, Option.bind_some,
    List.set_cons_succ, List.set_cons_zero, hall, hlc, hlen, hasc, Bool.not_true, isDict, fnOut]
theorem check_ok {f : Gr} (h : OkF f) : G_check_group [gD f] = some .none := by
  have e := group_ok h
  simp [G_check_group, fFn, m_check_group, fIfS, fNot, fTst, fUs, pure1, fCons, fNil, fVar, e, fNx, fnOut]
/-! dicts of parts and numbers -/
def rep (l : List (Nat × Int)) : KV := l.map fun x => (P x.1, .int x.2)
def put (f : Gr) (i : Nat) (m : Int) : Gr := fun j => if j = i then some m else f j
structure RpL (l : List (Nat × Int)) (f : Gr) : Prop where
  lt : ∀ x ∈ l, x.1 < 32
  nd : (l.map (·.1)).Nodup
  iff : ∀ i m, (i, m) ∈ l ↔ i < 32 ∧ f i = some m
def Rp (kvs : KV) (f : Gr) : Prop := ∃ l, kvs = rep l ∧ RpL l f
theorem Rp.congr {kvs : KV} {f g : Gr} (h : Rp kvs f) (e : ∀ i, i < 32 → f i = g i) : Rp kvs g := by
  obtain ⟨l, rfl, h1, h2, h3⟩ := h
  exact ⟨l, rfl, h1, h2, fun i m => by rw [h3 i m]; exact ⟨fun ⟨a, b⟩ => ⟨a, by rw [← e i a]; exact b⟩, fun ⟨a, b⟩ => ⟨a, by rw [e i a]; exact b⟩⟩⟩
theorem Rp.nil : Rp [] fun _ => none := ⟨[], rfl, { lt := fun _ h => (nomatch h), nd := List.nodup_nil, iff := fun i m => ⟨fun h => (nomatch h), fun h => (nomatch h.2)⟩ }⟩
theorem Rp.marked {kvs : KV} {f : Gr} (h : Rp kvs f) : marked kvs = false := by
  obtain ⟨l, rfl, h1, _⟩ := h
  cases l with
  | nil => rfl
  | cons x r =>
    obtain ⟨y, z, e⟩ := f_ts (h1 x List.mem_cons_self)
    show DL.marked ((P x.1, .int x.2) :: rep r) = false
    rw [e]
    rfl
theorem getT_rep {l : List (Nat × Int)} (h : ∀ x ∈ l, x.1 < 32) {i : Nat} (hi : i < 32) : getT (rep l) (KK i) = (l.find? fun x => x.1 == i).map fun x => .int x.2 := by
  induction l with
  | nil => rfl
  | cons x r ih =>
    have hx := h x List.mem_cons_self
    have ih := ih fun y hy => h y (List.mem_cons_of_mem _ hy)
    unfold getT at ih ⊢
    unfold rep at ih ⊢
    rw [List.map_cons, List.find?_cons, List.find?_cons]
    have e : (decide (keyOf (P x.1) = some (KK i))) = (x.1 == i) := by
      rw [f_key hx]
      by_cases q : x.1 = i
      · rw [q]; simp
      · have := mt (f_inj hx hi).mp q
        simp [this, q]
    show (match decide (keyOf (P x.1) = some (KK i)) with | true => some _ | false => _).map _ = _
    rw [e]
    cases x.1 == i with
    | true => rfl
    | false => exact ih
theorem find_of {l : List (Nat × Int)} (nd : (l.map (·.1)).Nodup) {i : Nat} {m : Int} (h : (i, m) ∈ l) : (l.find? fun x => x.1 == i) = some (i, m) := by
  induction l with
  | nil => cases h
  | cons x r ih =>
    rw [List.map_cons, List.nodup_cons] at nd
    rw [List.find?_cons]
    rcases List.mem_cons.mp h with e | e
    · subst e
      simp
    · have : x.1 ≠ i := fun q => nd.1 (by rw [q]; exact List.mem_map.mpr ⟨_, e, rfl⟩)
      rw [beq_false_of_ne this]
      exact ih nd.2 e
theorem find_none {l : List (Nat × Int)} {i : Nat} (h : ∀ m, (i, m) ∉ l) : (l.find? fun x => x.1 == i) = none := by
  rw [List.find?_eq_none]
  intro x hx e
  have e : x.1 = i := by simpa using e
  subst e
  exact h x.2 hx
theorem Rp.get {kvs : KV} {f : Gr} (h : Rp kvs f) {i : Nat} (hi : i < 32) : getT kvs (KK i) = (f i).map .int := by
  obtain ⟨l, rfl, h1, h2, h3⟩ := h
  rw [getT_rep h1 hi]
  cases e : f i with
  | none =>
    rw [find_none fun m hm => by rw [((h3 i m).mp hm).2] at e; cases e]
    rfl
  | some m =>
    rw [find_of h2 ((h3 i m).mpr ⟨hi, e⟩)]
    rfl
theorem Rp.has {kvs : KV} {f : Gr} (h : Rp kvs f) {i : Nat} (hi : i < 32) : hasT kvs (KK i) = (f i).isSome := by
  unfold hasT
  rw [h.get hi]
  cases f i <;> rfl
theorem Rp.put {kvs : KV} {f : Gr} (h : Rp kvs f) {i : Nat} (hi : i < 32) (m : Int) : Rp (putT kvs (KK i) (.int m)) (put f i m) := by
  have hh := h.has hi
  obtain ⟨l, rfl, h1, h2, h3⟩ := h
  unfold putT
  rw [hh]
  cases e : f i with
  | none =>
    rw [if_neg (by simp)]
    refine ⟨l ++ [(i, m)], ?_, ?_, ?_, ?_⟩
    · unfold rep
      rw [List.map_append, List.map_cons, List.map_nil, ← f_keyD hi]
    · intro x hx
      rcases List.mem_append.mp hx with z | z
      · exact h1 x z
      · rw [List.mem_singleton.mp z]; exact hi
    · rw [List.map_append, List.nodup_append]
      refine ⟨h2, by simp, fun a ha b hb => ?_⟩
      obtain ⟨x, hx, rfl⟩ := List.mem_map.mp ha
      rw [List.mem_singleton.mp hb]
      intro q
      have := ((h3 x.1 x.2).mp hx).2
      have q : x.1 = i := q
      rw [q, e] at this
      cases this
    · intro j n
      rw [List.mem_append, List.mem_singleton, h3 j n]
      unfold Law.put
      by_cases q : j = i
      · subst q
        rw [if_pos rfl, e]
        constructor
        · rintro (⟨_, z⟩ | z)
          · cases z
          · cases z; exact ⟨hi, rfl⟩
        · rintro ⟨_, z⟩
          cases z
          exact .inr rfl
      · rw [if_neg q]
        constructor
        · rintro (z | z)
          · exact z
          · cases z; exact absurd rfl q
        · exact .inl
  | some m0 =>
    rw [if_pos (show (some m0).isSome = true from rfl)]
    refine ⟨l.map fun x => if x.1 = i then (x.1, m) else x, ?_, ?_, ?_, ?_⟩
    · unfold rep
      rw [List.map_map, List.map_map]
      refine List.map_congr_left fun x hx => ?_
      show (if keyOf (P x.1) = some (KK i) then (P x.1, PyData.int m) else (P x.1, .int x.2)) = (P (if x.1 = i then (x.1, m) else x).1, .int (if x.1 = i then (x.1, m) else x).2)
      rw [f_key (h1 x hx)]
      by_cases q : x.1 = i
      · rw [if_pos q, if_pos (by rw [q])]
      · rw [if_neg q, if_neg fun z => q ((f_inj (h1 x hx) hi).mp (Option.some.inj z))]
    · intro x hx
      obtain ⟨y, hy, rfl⟩ := List.mem_map.mp hx
      split
      · exact h1 y hy
      · exact h1 y hy
    · rw [List.map_map]
      have : ((fun x : Nat × Int => x.1) ∘ fun x : Nat × Int => if x.1 = i then (x.1, m) else x) = fun x => x.1 := by
        funext x
        show (if x.1 = i then (x.1, m) else x).1 = x.1
        split <;> rfl
      rw [this]
      exact h2
    · intro j n
      rw [List.mem_map]
      unfold Law.put
      by_cases q : j = i
      · subst q
        rw [if_pos rfl]
        constructor
        · rintro ⟨x, hx, z⟩
          split at z
          · cases z; exact ⟨hi, rfl⟩
          · rename_i nx
            subst z
            exact absurd rfl nx
        · rintro ⟨_, z⟩
          cases z
          exact ⟨(j, m0), (h3 j m0).mpr ⟨hi, e⟩, if_pos rfl⟩
      · rw [if_neg q, ← h3 j n]
        constructor
        · rintro ⟨x, hx, z⟩
          split at z
          · rename_i ex
            cases z
            exact absurd ex q
          · subst z; exact hx
        · intro hx
          exact ⟨(j, n), hx, if_neg q⟩
theorem its_nd (f : Gr) : ((its f).map (·.1)).Nodup := List.pairwise_map.mpr ((its_sorted f).imp fun {a b} h => Nat.ne_of_lt h)
theorem nd_of {l : List (Nat × Int)} (h : (l.map (·.1)).Nodup) : l.Nodup := (List.pairwise_map.mp h).imp fun {a b} h e => h (by rw [e])
theorem RpL.perm {l : List (Nat × Int)} {f : Gr} (h : RpL l f) : (its f).Perm l := by
  refine (List.perm_ext_iff_of_nodup (nd_of (its_nd f)) (nd_of h.nd)).mpr fun x => ?_
  obtain ⟨i, m⟩ := x
  rw [mem_its, h.iff]
theorem its_rp (f : Gr) : RpL (its f) f := { lt := fun x h => its_lt h, nd := its_nd f, iff := fun i m => mem_its }
theorem Rp.len {kvs : KV} {f : Gr} (h : Rp kvs f) : kvs.length = (its f).length := by
  obtain ⟨l, rfl, hl⟩ := h
  unfold rep
  rw [List.length_map, hl.perm.length_eq]
/-! sorted -/
theorem okD_it {x : Nat × Int} (h : x.1 < 32) : okD (it x) = true := by
  obtain ⟨a, b, c⟩ := okD_iff.mp (f_ok h)
  refine okD_iff.mpr ⟨?_, ?_, ?_⟩
  · simp [it, od, ods, a]
  · simp [it, PyData.canLay0, PyData.canLayAll0, b]
  · have := f_dep h
    simp [it, PyData.depth, PyData.depthAll, this]
theorem cmp_it {x y : Nat × Int} (hx : x.1 < 32) (hy : y.1 < 32) : cmpD (it x) (it y) = true := by
  simp [it, cmpD, cmpDs, f_cmp hx hy]
theorem olt_it {x y : Nat × Int} (hx : x.1 < 32) (hy : y.1 < 32) (h : x.1 < y.1) : olt (it x) (it y) = true := by
  have ne : PyData.eqv (P x.1) (P y.1) = false := by rw [f_eqv hx hy]; simp; omega
  rw [olt_ltD (okD_iff.mp (okD_it hx)).1 (okD_iff.mp (okD_it hy)).1 (cmp_it hx hy)]
  · simp [it, ltD, ltDs, ne, f_lt hx hy, h]
  · simp [it, PyData.eqv, PyData.eqvAll, ne]
theorem hd_it {x : Nat × Int} (hx : x.1 < 32) : headK (it x) = 3 := by
  obtain ⟨y, r, e⟩ := f_ts hx
  unfold it
  rw [e]
  rfl
theorem hd_P {i : Nat} (hi : i < 32) : headK (P i) = 2 := by
  obtain ⟨y, r, e⟩ := f_ts hi
  rw [e]
  rfl
theorem Rp.sortK {kvs : KV} {f : Gr} (h : Rp kvs f) : dSortX [.dict kvs] = some (.list (((its f).map (·.1)).map P)) := by
  have hm := h.marked
  obtain ⟨l, rfl, hl⟩ := h
  have ek : (rep l).map (·.1) = (l.map (·.1)).map P := by
    unfold rep
    rw [List.map_map, List.map_map]
    rfl
  have lt : ∀ d ∈ (l.map (·.1)).map P, ∃ i, i < 32 ∧ d = P i := fun d hd => by
    obtain ⟨i, hi, rfl⟩ := List.mem_map.mp hd
    obtain ⟨x, hx, rfl⟩ := List.mem_map.mp hi
    exact ⟨x.1, hl.lt x hx, rfl⟩
  have so : sortOk ((rep l).map (·.1)) = true := by
    rw [ek]
    refine sortOk_iff.mpr { ok := fun d hd => ?_, cmp := fun d hd e he => ?_, hd := fun d hd e he => ?_, pos := fun d hd => ?_ }
    · obtain ⟨i, hi, rfl⟩ := lt d hd
      exact f_ok hi
    · obtain ⟨i, hi, rfl⟩ := lt d hd
      obtain ⟨j, hj, rfl⟩ := lt e he
      exact f_cmp hi hj
    · obtain ⟨i, hi, rfl⟩ := lt d hd
      obtain ⟨j, hj, rfl⟩ := lt e he
      rw [hd_P hi, hd_P hj]
    · obtain ⟨i, hi, rfl⟩ := lt d hd
      rw [hd_P hi]
      decide
  show (if DL.marked (rep l) = true then none else if sortOk ((rep l).map (·.1)) = true then some (PyData.list (sortD ((rep l).map (·.1)))) else none) = _
  rw [hm, if_neg Bool.false_ne_true, if_pos so, ek, sortD_strict ((hl.perm.map _).map _)]
  rw [List.pairwise_map, List.pairwise_map]
  refine (List.Pairwise.and_mem.mp (its_sorted f)).imp fun {a b} ⟨ha, hb, hab⟩ => ?_
  exact f_olt (its_lt ha) (its_lt hb) hab
theorem Rp.sortIt {kvs : KV} {f : Gr} (h : Rp kvs f) {g : FE} {ρ : DL.Env} {s s' : Src} (hg : g ρ s = some (.dict kvs, s')) : fSortIt g ρ s = some (.list ((its f).map it), s') := by
  have hm := h.marked
  obtain ⟨l, rfl, hl⟩ := h
  have ek : GX.itemsD (rep l) = l.map it := by
    unfold rep GX.itemsD
    rw [List.map_map]
    rfl
  have lt : ∀ d ∈ l.map it, ∃ x : Nat × Int, x.1 < 32 ∧ d = it x := fun d hd => by
    obtain ⟨x, hx, rfl⟩ := List.mem_map.mp hd
    exact ⟨x, hl.lt x hx, rfl⟩
  have so : sortOk (GX.itemsD (rep l)) = true := by
    rw [ek]
    refine sortOk_iff.mpr { ok := fun d hd => ?_, cmp := fun d hd e he => ?_, hd := fun d hd e he => ?_, pos := fun d hd => ?_ }
    · obtain ⟨i, hi, rfl⟩ := lt d hd
      exact okD_it hi
    · obtain ⟨i, hi, rfl⟩ := lt d hd
      obtain ⟨j, hj, rfl⟩ := lt e he
      exact cmp_it hi hj
    · obtain ⟨i, hi, rfl⟩ := lt d hd
      obtain ⟨j, hj, rfl⟩ := lt e he
      rw [hd_it hi, hd_it hj]
    · obtain ⟨i, hi, rfl⟩ := lt d hd
      rw [hd_it hi]
      decide
  unfold fSortIt
  rw [hg, Option.bind_some]
  show (if DL.marked (rep l) = true then none else if sortOk (GX.itemsD (rep l)) = true then some (PyData.list (sortD (GX.itemsD (rep l))), s') else none) = _
  rw [hm, if_neg Bool.false_ne_true, if_pos so, ek, sortD_strict (hl.perm.map _)]
  rw [List.pairwise_map]
  refine (List.Pairwise.and_mem.mp (its_sorted f)).imp fun {a b} ⟨ha, hb, hab⟩ => ?_
  exact olt_it (its_lt ha) (its_lt hb) hab
/-! dict(group) -/
theorem pl_its (l : List (Nat × Int)) (h : ∀ x ∈ l, x.1 < 32) : pl (l.map it) = true := by
  induction l with
  | nil => rfl
  | cons x r ih =>
    obtain ⟨y, z, e⟩ := f_ts (h x List.mem_cons_self)
    rw [List.map_cons]
    unfold it
    rw [e]
    exact ih fun y hy => h y (List.mem_cons_of_mem _ hy)
theorem pairs_its (l : List (Nat × Int)) (h : ∀ x ∈ l, x.1 < 32) : pairsD (l.map it) = some (l.map fun x => (KK x.1, .int x.2)) := by
  induction l with
  | nil => rfl
  | cons x r ih =>
    rw [List.map_cons]
    unfold pairsD
    have e : kvOf (it x) = some (KK x.1, .int x.2) := by
      show (keyOf (P x.1)).map _ = _
      rw [f_key (h x List.mem_cons_self)]
      rfl
    rw [e, Option.bind_some, ih fun y hy => h y (List.mem_cons_of_mem _ hy)]
    rfl
def puts (l : List (Nat × Int)) (f : Gr) : Gr := l.foldl (fun g x => put g x.1 x.2) f
theorem merge_rp : ∀ (l : List (Nat × Int)) (kvs : KV) (f : Gr), Rp kvs f → (∀ x ∈ l, x.1 < 32) → Rp ((l.map fun x => (KK x.1, PyData.int x.2)).foldl (fun acc p => putT acc p.1 p.2) kvs) (puts l f)
  | [], _, _, h, _ => h
  | x :: r, kvs, f, h, hl => merge_rp r _ _ (h.put (hl x List.mem_cons_self) x.2) fun y hy => hl y (List.mem_cons_of_mem _ hy)
theorem puts_not : ∀ (l : List (Nat × Int)) (f : Gr) (j : Nat), (∀ m, (j, m) ∉ l) → puts l f j = f j
  | [], _, _, _ => rfl
  | x :: r, f, j, h => by
    show puts r (put f x.1 x.2) j = _
    rw [puts_not r _ j fun m hm => h m (List.mem_cons_of_mem _ hm)]
    unfold put
    rw [if_neg]
    intro e
    exact h x.2 (by rw [e]; exact List.mem_cons_self)
theorem puts_in : ∀ (l : List (Nat × Int)) (f : Gr) (j : Nat) (m : Int), (l.map (·.1)).Nodup → (j, m) ∈ l → puts l f j = some m
  | x :: r, f, j, m, nd, h => by
    rw [List.map_cons, List.nodup_cons] at nd
    show puts r (put f x.1 x.2) j = _
    rcases List.mem_cons.mp h with e | e
    · subst e
      rw [puts_not r _ j fun n hn => nd.1 (List.mem_map.mpr ⟨_, hn, rfl⟩)]
      unfold put
      rw [if_pos rfl]
    · exact puts_in r _ j m nd.2 e
theorem dict_ok (f : Gr) : ∃ kvs, dDictX [gD f] = some (.dict kvs) ∧ Rp kvs f := by
  refine ⟨_, ?_, (merge_rp (its f) [] _ Rp.nil fun x h => its_lt h).congr fun i hi => ?_⟩
  · show (if pl ((its f).map it) = true then (pairsD ((its f).map it)).map _ else none) = _
    rw [if_pos (pl_its _ fun x h => its_lt h), pairs_its _ fun x h => its_lt h]
    rfl
  · cases e : f i with
    | none => exact puts_not _ _ _ fun m hm => by rw [(mem_its.mp hm).2] at e; cases e
    | some m => exact puts_in _ _ _ _ (its_nd f) (mem_its.mpr ⟨hi, e⟩)
end Law
namespace Law
open PySem PySem.Spec PyProof.Rows L2 GX DL Ord
/-! the source -/
def SOk (b : Nat) (s : Src) : Prop := 0 ≤ s.1 ∧ 0 ≤ s.2.1 ∧ s.2.1 < 10 ^ 28 ∧ 0 ≤ s.2.2 ∧ s.2.2 ≤ b
theorem SOk.mono {b c : Nat} {s : Src} (h : SOk b s) (hc : b ≤ c) : SOk c s := by
  obtain ⟨h1, h2, h3, h4, h5⟩ := h
  exact ⟨h1, h2, h3, h4, by omega⟩
theorem log_lt {n k : Nat} (h : n < 2 ^ k) (hk : 0 < k) : n.log2 < k := by
  by_cases e : n = 0
  · subst e
    exact hk
  · exact (Nat.log2_lt e).mpr h
theorem cMul_ok {i j : Int} (a b : Nat) (hi : i.natAbs < 2 ^ a) (hj : j.natAbs < 2 ^ b) (ha : 0 < a) (hb : 0 < b) (h : a + b < 1000000) : cMul i j = true := by
  unfold cMul
  have := log_lt hi ha
  have := log_lt hj hb
  exact decide_eq_true (by omega)
theorem dMul_ok {i j : Int} (a b : Nat) (hi : i.natAbs < 2 ^ a) (hj : j.natAbs < 2 ^ b) (ha : 0 < a) (hb : 0 < b) (h : a + b < 1000000) : dMulI (.int i) (.int j) = some (.int (i * j)) := by
  show (if cMul i j = true then some (PyData.int (i * j)) else none) = _
  rw [if_pos (cMul_ok a b hi hj ha hb h)]
theorem dMod_ok {i j : Int} (h : 0 < j) : dMod (.int i) (.int j) = some (.int (i % j)) := by
  show (if cMod i j = true then some (PyData.int (i % j)) else none) = _
  rw [if_pos (show cMod i j = true from decide_eq_true h)]
theorem dDiv_ok {i j : Int} (h : 0 < j) (h2 : j.natAbs < 2 ^ 100) : dDiv (.int i) (.int j) = some (.int (i / j)) := by
  show (if cDiv i j = true then some (PyData.int (i / j)) else none) = _
  rw [if_pos]
  unfold cDiv
  have := log_lt h2 (by decide)
  rw [decide_eq_true h, decide_eq_true (by omega)]
  rfl
theorem draw_ok {m : Int} {b : Nat} {s : Src} (hm : 0 < m) (hm2 : m ≤ 1000) (hs : SOk b s) (hb : b ≤ 1000000) : ∃ v s', H__law_draw [.int m] s = some (.int v, s') ∧ 0 ≤ v ∧ v < m ∧ SOk (b + 1) s' := by
  obtain ⟨x, y, z⟩ := s
  obtain ⟨h1, h2, h3, h4, h5⟩ := hs
  have h1 : 0 ≤ x := h1
  have h2 : 0 ≤ y := h2
  have h3 : y < 10 ^ 28 := h3
  have h4 : 0 ≤ z := h4
  have h5 : z ≤ b := h5
  have m1 := fun i : Int => dMod_ok (i := i) hm
  have d1 := fun i : Int => dDiv_ok (i := i) hm (by omega)
  by_cases hx : 0 < x
  · have g1 : dGt (.int x) (.int 0) = some (.bool true) := by
      show some (PyData.bool (decide (0 < x))) = _
      rw [decide_eq_true hx]
    refine ⟨x % m, (x / m, y, z), ?_, Int.emod_nonneg _ (by omega), Int.emod_lt_of_pos _ hm, Int.ediv_nonneg h1 (by omega), h2, h3, h4, by show z ≤ ((b + 1 : Nat) : Int); omega⟩
    simp [H__law_draw, fFn, m__law_draw, fSeq, fIfS, fTst, fB2, fSrc, srcGet, fC, g1, fSet, fCall, fCons, fNil, dInt, fVar, m1, fSrcSet, srcSet, d1, fRet, isDict, fnOut]
  · have g1 : dGt (.int x) (.int 0) = some (.bool false) := by
      show some (PyData.bool (decide (0 < x))) = _
      rw [decide_eq_false hx]
    have p27 : dPow (.int 10) (.int 27) = some (.int 1000000000000000000000000000) := rfl
    have p6 : dPow (.int 10) (.int 6) = some (.int 1000000) := rfl
    have ad : ∀ i j : Int, dAdd (.int i) (.int j) = some (.int (i + j)) := fun _ _ => rfl
    have u1 := dMul_ok (i := y) (j := 2330130241) 100 100 (by omega) (by decide) (by decide) (by decide) (by decide)
    have u2 := dMul_ok (i := z + 1) (j := z + 1) 100 100 (by omega) (by omega) (by decide) (by decide) (by decide)
    have u3 := dMul_ok (i := (z + 1) * (z + 1)) (j := 69621) 100 100 (by
      have : (z + 1) * (z + 1) ≤ 1000001 * 1000001 := Int.mul_le_mul (by omega) (by omega) (by omega) (by decide)
      have : 0 ≤ (z + 1) * (z + 1) := Int.mul_nonneg (by omega) (by omega)
      omega) (by decide) (by decide) (by decide) (by decide)
    have m2 := fun i : Int => dMod_ok (i := i) (j := 1000000000000000000000000103) (by decide)
    have d2 := fun i : Int => dDiv_ok (i := i) (j := 1000000) (by decide) (by decide)
    refine ⟨(y * 2330130241 + (z + 1) * (z + 1) * 69621 + 11) % 1000000000000000000000000103 / 1000000 % m, (x, (y * 2330130241 + (z + 1) * (z + 1) * 69621 + 11) % 1000000000000000000000000103, z + 1), ?_, Int.emod_nonneg _ (by omega), Int.emod_lt_of_pos _ hm, h1, Int.emod_nonneg _ (by decide), ?_, ?_, ?_⟩
    rotate_left
    · have := Int.emod_lt_of_pos (y * 2330130241 + (z + 1) * (z + 1) * 69621 + 11) (show (0 : Int) < 1000000000000000000000000103 by decide)
      show _ % _ < (10 : Int) ^ 28
      omega
    · show 0 ≤ z + 1
      omega
    · show z + 1 ≤ ((b + 1 : Nat) : Int)
      omega
    · simp [H__law_draw, fFn, m__law_draw, fSeq, fIfS, fTst, fB2, fSrc, srcGet, fC, g1, fSet, fCall, fCons, fNil, dInt, fVar, m1, m2, d2, u1, u2, u3, p27, p6, ad, fSrcSet, srcSet, d1, fRet, isDict, fNx, fnOut]
/-! the source that is made of the script -/
def srcB : FS := fSet 3 (fB2 dMod (fCall dInt (fCons (fB2 dAdd (fB2 dMulI (fVar 3) (fC (.int 6700417))) (fB2 dMod (fCall dInt (fCons (fVar 4) (fNil))) (fB2 dAdd (fB2 dPow (fC (.int 10)) (fC (.int 25))) (fC (.int 13))))) (fNil))) (fB2 dAdd (fB2 dPow (fC (.int 10)) (fC (.int 27))) (fC (.int 103))))
def srcOwn (ns : List Int) : FE := fIf (fTst (fB2 dLtI (fVar 1) (fC (.int ns.length)))) (fCall dInt (fCons (fScr ns (fVar 1)) (fNil))) (fB2 dAdd (fC (.int 11)) (fB2 dMulI (fC (.int 9973)) (fVar 1)))
theorem m_src_eq (ns : List Int) : m__law_source ns = fSeq (fSet 2 (srcOwn ns)) (fSeq (fSet 3 (fB2 dAdd (fC (.int ns.length)) (fC (.int 5)))) (fSeq (fFor (fSeqI (fSl dSlL (fC (.list (ns.map PyData.int))) (fNoPart) (fPart (fC (.int 63))))) (sName 4) srcB) (fSeq (fSet 3 (fB2 dMod (fCall dInt (fCons (fB2 dAdd (fB2 dAdd (fB2 dMulI (fVar 3) (fC (.int 97))) (fB2 dMulI (fVar 1) (fC (.int 7919)))) (fB2 dMod (fCall dInt (fCons (fVar 2) (fNil))) (fB2 dAdd (fB2 dPow (fC (.int 10)) (fC (.int 26))) (fC (.int 67))))) (fNil))) (fB2 dAdd (fB2 dPow (fC (.int 10)) (fC (.int 27))) (fC (.int 103))))) (fRet (fLst (fCons (fCall dMax2 (fCons (fC (.int 0)) (fCons (fB2 dSub (fCall dAbs (fCons (fVar 2) (fNil))) (fB2 dPow (fC (.int 10)) (fC (.int 18)))) (fNil)))) (fCons (fVar 3) (fCons (fC (.int 0)) (fNil))))))))) := rfl
theorem own_ok {ns : List Int} {k : Int} (h0 : 0 ≤ k) (h1 : k ≤ 3) (s : Src) : ∃ o, srcOwn ns [none, some (.int k), none, none, none] s = some (.int o, s) := by
  have lt : ∀ j : Int, dLtI (.int k) (.int j) = some (.bool (decide (k < j))) := fun _ => rfl
  by_cases h : k < ns.length
  · obtain ⟨n, rfl⟩ := Int.eq_ofNat_of_zero_le h0
    have hn : n < ns.length := by omega
    have e : atI ns (n : Int) = some ns[n] := by
      unfold atI ixN
      rw [if_pos (Int.natCast_nonneg n), if_pos (by omega), Option.bind_some, Int.toNat_natCast, List.getElem?_eq_getElem hn]
    refine ⟨ns[n], ?_⟩
    simp [srcOwn, fIf, fTst, fB2, fVar, fC, lt, hn, fCall, fScr, e, fCons, fNil, dInt]
  · have u := dMul_ok (i := 9973) (j := k) 20 20 (by decide) (by omega) (by decide) (by decide) (by decide)
    have ad : ∀ i j : Int, dAdd (.int i) (.int j) = some (.int (i + j)) := fun _ _ => rfl
    refine ⟨11 + 9973 * k, ?_⟩
    simp [srcOwn, fIf, fTst, fB2, fVar, fC, lt, h, u, ad]
theorem cut_ints (ns : List Int) (lo hi : Option Int) : ∃ l : List Int, DL.cutD (ns.map PyData.int) lo hi = l.map PyData.int := by
  unfold DL.cutD
  exact ⟨_, by rw [← List.map_drop, ← List.map_take]⟩
theorem source_ok (ns : List Int) (hl : ns.length ≤ 63) {k : Int} (h0 : 0 ≤ k) (h1 : k ≤ 3) : ∃ a m, L__law_source ns [.int k] = some (.list [.int a, .int m, .int 0]) ∧ SOk 0 (a, m, 0) := by
  obtain ⟨o, ho⟩ := own_ok (ns := ns) h0 h1 (0, 0, 0)
  obtain ⟨l, hcut⟩ := cut_ints ns none (some 63)
  have p27 : dPow (.int 10) (.int 27) = some (.int 1000000000000000000000000000) := rfl
  have p26 : dPow (.int 10) (.int 26) = some (.int 100000000000000000000000000) := rfl
  have p25 : dPow (.int 10) (.int 25) = some (.int 10000000000000000000000000) := rfl
  have p18 : dPow (.int 10) (.int 18) = some (.int 1000000000000000000) := rfl
  have ad : ∀ i j : Int, dAdd (.int i) (.int j) = some (.int (i + j)) := fun _ _ => rfl
  have m27 := fun i : Int => dMod_ok (i := i) (j := 1000000000000000000000000103) (by decide)
  have m26 := fun i : Int => dMod_ok (i := i) (j := 100000000000000000000000067) (by decide)
  have m25 := fun i : Int => dMod_ok (i := i) (j := 10000000000000000000000013) (by decide)
  obtain ⟨ρ1, s1, e1, hs, m, num, hρ, hm0, hm1⟩ := fLoop_ok (set := sName 4) (body := srcB)
    (I := fun _ ρ s => s = (0, 0, 0) ∧ ∃ m num, ρ = [none, some (.int k), some (.int o), some (.int m), num] ∧ 0 ≤ m ∧ m < 10 ^ 28)
    (l.map PyData.int) 0 [none, some (.int k), some (.int o), some (.int (ns.length + 5)), none] (0, 0, 0) ⟨rfl, _, _, rfl, by omega, by omega⟩ (fun j d ρ s hk ⟨hs, m, num, hρ, hm0, hm1⟩ => by
      rw [List.getElem?_map] at hk
      cases hx : l[j]? with
      | none => rw [hx] at hk; cases hk
      | some v =>
        rw [hx] at hk
        cases hk
        subst hs hρ
        have u := dMul_ok (i := m) (j := 6700417) 100 100 (by omega) (by decide) (by decide) (by decide) (by decide)
        refine ⟨[none, some (.int k), some (.int o), some (.int m), some (.int v)], .nx, [none, some (.int k), some (.int o), some (.int ((m * 6700417 + v % 10000000000000000000000013) % 1000000000000000000000000103)), some (.int v)], (0, 0, 0), rfl, ?_, .inl rfl, rfl, _, _, rfl, Int.emod_nonneg _ (by decide), ?_⟩
        · simp [srcB, fSet, fB2, fCall, fCons, fNil, fVar, fC, dInt, p27, p25, ad, u, m25, m27]
        · have := Int.emod_lt_of_pos (m * 6700417 + v % 10000000000000000000000013) (show (0 : Int) < 1000000000000000000000000103 by decide)
          omega)
  subst hs hρ
  have u1 := dMul_ok (i := m) (j := 97) 100 100 (by omega) (by decide) (by decide) (by decide) (by decide)
  have u2 := dMul_ok (i := k) (j := 7919) 20 20 (by omega) (by decide) (by decide) (by decide) (by decide)
  have hsub : ∀ i j : Int, dSub (.int i) (.int j) = some (.int (i - j)) := fun _ _ => rfl
  have hmax : ∀ i j : Int, dMax2 [.int i, .int j] = some (.int (if j > i then j else i)) := fun _ _ => rfl
  have habs : ∀ i : Int, dAbs [.int i] = some (.int (if i < 0 then -i else i)) := fun _ => rfl
  have hint : ∀ i : Int, dInt [.int i] = some (.int i) := fun _ => rfl
  refine ⟨if (if o < 0 then -o else o) - 1000000000000000000 > 0 then (if o < 0 then -o else o) - 1000000000000000000 else 0, (m * 97 + k * 7919 + o % 100000000000000000000000067) % 1000000000000000000000000103, ?_, ?_⟩
  · simp only [L__law_source, fScrFn, m_src_eq, fSeq, fSet, ho, fB2, fC, ad, fFor, fSeqI, fSl, fNoPart, fPart, dSlL, hcut, DL.itemsD, List.map_cons, List.map_nil, List.cons_append, List.nil_append, List.length_cons, List.length_nil, List.replicate, List.getD_cons_zero, List.getD_cons_succ, Option.map_some, Option.bind_some, List.set_cons_zero, List.set_cons_succ, e1]
    simp [fB2, fC, fCall, fCons, fNil, fVar, hint, u1, u2, ad, p26, p27, p18, m26, m27, fRet, fLst, hmax, habs, hsub, isDict, fnOut]
  · refine ⟨?_, Int.emod_nonneg _ (by decide), ?_, (show (0 : Int) ≤ 0 from Int.le_refl 0), (show (0 : Int) ≤ ((0 : Nat) : Int) from Int.le_refl 0)⟩
    · show 0 ≤ if (if o < 0 then -o else o) - 1000000000000000000 > 0 then (if o < 0 then -o else o) - 1000000000000000000 else 0
      split <;> omega
    · have := Int.emod_lt_of_pos (m * 97 + k * 7919 + o % 100000000000000000000000067) (show (0 : Int) < 1000000000000000000000000103 by decide)
      show _ % _ < (10 : Int) ^ 28
      omega
end Law
/-! How long what repr gives of data is. -/
namespace DL
open PySem PySem.Spec PyProof.Rows L2 GX
/-- a text of at most n signs -/
def Txt (n : Nat) (x : Str) : Prop := PyData.strOk x = true ∧ x.length ≤ n
theorem Txt.mono {n m : Nat} {x : Str} (h : Txt n x) (e : n ≤ m) : Txt m x := ⟨h.1, Nat.le_trans h.2 e⟩
theorem Txt.app {n m : Nat} {x y : Str} (h : Txt n x) (k : Txt m y) : Txt (n + m) (x ++ y) := by
  refine ⟨?_, by rw [strLen_append]; exact Nat.add_le_add h.2 k.2⟩
  have h1 := h.1
  have k1 := k.1
  unfold PyData.strOk at h1 k1 ⊢
  show (x.cps ++ y.cps).all _ = true
  rw [Array.all_append, h1, k1]
  rfl
theorem txt_join {n : Nat} : ∀ ts : List Str, (∀ t ∈ ts, Txt n t) → Txt (ts.length * (n + 2)) (Str.join ", " ts)
  | [], _ => (show Txt 0 Str.empty from ⟨by decide +kernel, by decide +kernel⟩).mono (Nat.zero_le _)
  | [x], h => (h x List.mem_cons_self).mono (by simp)
  | x :: y :: r, h => by
    have ih := txt_join (y :: r) fun t ht => h t (List.mem_cons_of_mem _ ht)
    have e : Txt 2 (", " : String) := ⟨by decide +kernel, by decide +kernel⟩
    have := ((h x List.mem_cons_self).app e).app ih
    refine Txt.mono (show Txt (n + 2 + (y :: r).length * (n + 2)) (Str.join ", " (x :: y :: r)) from this) ?_
    simp only [List.length_cons, Nat.add_mul]
    omega
theorem txt_tuple {n : Nat} {ts : List Str} (h : ∀ t ∈ ts, Txt n t) : Txt (ts.length * (n + 2) + 3) (tupleText ts) := by
  have a : Txt 1 ("(" : String) := ⟨by decide +kernel, by decide +kernel⟩
  have b : Txt 2 ((if ts.length == 1 then ",)" else ")" : String) : Str) := by
    split
    · exact ⟨by decide +kernel, by decide +kernel⟩
    · exact ⟨by decide +kernel, by decide +kernel⟩
  exact ((a.app (txt_join ts h)).app b).mono (by omega)
theorem txt_from {n : Nat} : ∀ (ts : List Str) (k a : Nat) (acc : Str), Txt a acc → (∀ t ∈ ts, Txt n t) → Txt (a + ts.length * (n + 2)) (textFrom k acc ts)
  | [], k, a, acc, h, _ => h.mono (by omega)
  | t :: ts, k, a, acc, h, q => by
    have e : Txt 2 ((if k > 0 then ", " else "" : String) : Str) := by
      split
      · exact ⟨by decide +kernel, by decide +kernel⟩
      · exact ⟨by decide +kernel, by decide +kernel⟩
    have := txt_from ts (k + 1) (a + 2 + n) _ ((h.app e).app (q t List.mem_cons_self)) fun u hu => q u (List.mem_cons_of_mem _ hu)
    refine Txt.mono (show Txt _ (textFrom k acc (t :: ts)) from this) ?_
    simp only [List.length_cons, Nat.add_mul]
    omega
theorem txt_list {n : Nat} {ts : List Str} (h : ∀ t ∈ ts, Txt n t) : Txt (ts.length * (n + 2) + 2) (listText ts) := by
  have a : Txt 1 ("[" : String) := ⟨by decide +kernel, by decide +kernel⟩
  have b : Txt 1 ("]" : String) := ⟨by decide +kernel, by decide +kernel⟩
  exact ((txt_from ts 0 1 _ a h).app b).mono (by omega)
/-- data whose repr has at most n signs -/
structure Nice (n : Nat) (d : D) : Prop where
  sh : d.showable = true
  can : d.canLay0 = true
  dep : d.depth ≤ 20
  txt : Txt n d.shown
theorem Nice.mono {n m : Nat} {d : D} (h : Nice n d) (e : n ≤ m) : Nice m d := { h with txt := h.txt.mono e }
theorem nice_all {n k : Nat} : ∀ {ds : List D}, (∀ d ∈ ds, Nice n d ∧ d.depth ≤ k) → PyData.showableAll ds = true ∧ PyData.canLayAll0 ds = true ∧ PyData.depthAll ds ≤ k ∧ (PyData.shownAll ds).length = ds.length ∧ ∀ t ∈ PyData.shownAll ds, Txt n t
  | [], _ => ⟨rfl, rfl, Nat.zero_le _, rfl, fun t h => by rw [PyData.shownAll] at h; cases h⟩
  | d :: ds, h => by
    obtain ⟨h1, h2, h3, h4, h5⟩ := nice_all fun e he => h e (List.mem_cons_of_mem _ he)
    obtain ⟨hd, hk⟩ := h d List.mem_cons_self
    refine ⟨?_, ?_, ?_, ?_, fun t ht => ?_⟩
    · rw [PyData.showableAll, hd.sh, h1]; rfl
    · rw [PyData.canLayAll0, hd.can, h2]; rfl
    · rw [PyData.depthAll]; omega
    · rw [PyData.shownAll, List.length_cons, List.length_cons, h4]
    · rw [PyData.shownAll] at ht
      rcases List.mem_cons.mp ht with rfl | ht
      · exact hd.txt
      · exact h5 t ht
theorem nice_tup {n k : Nat} {ds : List D} (h : ∀ d ∈ ds, Nice n d ∧ d.depth ≤ k) (hk : k < 20) : Nice (ds.length * (n + 2) + 3) (.tuple ds) := by
  obtain ⟨h1, h2, h3, h4, h5⟩ := nice_all h
  refine { sh := ?_, can := ?_, dep := ?_, txt := ?_ }
  · rw [PyData.showable]; exact h1
  · rw [PyData.canLay0]; exact h2
  · rw [PyData.depth]; omega
  · rw [PyData.shown]
    have := txt_tuple h5
    rw [h4] at this
    exact this
theorem nice_list {n k : Nat} {ds : List D} (h : ∀ d ∈ ds, Nice n d ∧ d.depth ≤ k) (hk : k < 20) : Nice (ds.length * (n + 2) + 2) (.list ds) := by
  obtain ⟨h1, h2, h3, h4, h5⟩ := nice_all h
  refine { sh := ?_, can := ?_, dep := ?_, txt := ?_ }
  · rw [PyData.showable]; exact h1
  · rw [PyData.canLay0]; exact h2
  · rw [PyData.depth]; omega
  · rw [PyData.shown]
    have := txt_list h5
    rw [h4] at this
    exact this
def niceB (n : Nat) (d : D) : Bool := d.showable && d.canLay0 && decide (d.depth ≤ 20) && PyData.strOk d.shown && decide (d.shown.length ≤ n)
theorem nice_of {n : Nat} {d : D} (h : niceB n d = true) : Nice n d := by
  unfold niceB at h
  simp only [Bool.and_eq_true, decide_eq_true_eq] at h
  obtain ⟨⟨⟨⟨h1, h2⟩, h3⟩, h4⟩, h5⟩ := h
  exact { sh := h1, can := h2, dep := h3, txt := ⟨h4, h5⟩ }
theorem Nice.ok {n : Nat} {d : D} (h : Nice n d) (hn : n ≤ sizeLine) : reprOk d = true := by
  unfold reprOk
  rw [h.sh, PyData.hasDict_of_canLay d h.can, decide_eq_true (Nat.le_trans h.dep (by decide)), decide_eq_true (Nat.le_trans h.txt.2 hn)]
  rfl
theorem Nice.repr {n : Nat} {d : D} (h : Nice n d) (hn : n ≤ sizeLine) (hs : isSeq d = true) : dRepr [d] = some (.str d.shown) := by
  show (if isSeq d = true ∧ reprOk d = true then some (PyData.str d.shown) else none) = _
  rw [if_pos ⟨hs, h.ok hn⟩]
theorem Txt.eq {n : Nat} {x : Str} (h : Txt n x) : dEq (.str x) (.str x) = some (.bool true) := by
  have e : shp (.str x) = true := by
    have : PyData.canLay0 (.str x) = true := by rw [PyData.canLay0]; exact h.1
    simp [shp, SeqAt.shaped, this, PyData.depth, isDict]
  unfold dEq
  rw [e]
  simp [PyData.eqv]
theorem Txt.ne {n : Nat} {x : Str} (h : Txt n x) : dNe (.str x) (.str x) = some (.bool false) := by
  have e : shp (.str x) = true := by
    have : PyData.canLay0 (.str x) = true := by rw [PyData.canLay0]; exact h.1
    simp [shp, SeqAt.shaped, this, PyData.depth, isDict]
  unfold dNe
  rw [e]
  simp [PyData.eqv]
end DL
namespace Law
open PySem PySem.Spec PyProof.Rows L2 GX DL Ord
/-! lots of one letter -/
def rowD (r : Int × Int) : D := .tuple [.int r.1, .tuple [.int r.2]]
def lotD (l : List (Int × Int)) : D := .tuple (l.map rowD)
def dvals : List Int := [0, 2, 3, 4, 6, 8, 9, 12, 16, 10, 1]
def okRow (r : Int × Int) : Prop := r.1 ∈ dvals ∧ -16 ≤ r.2 ∧ r.2 ≤ 16
def OkL (l : List (Int × Int)) : Prop := ∀ r ∈ l, okRow r
theorem OkL.app {l m : List (Int × Int)} (h : OkL l) (k : OkL m) : OkL (l ++ m) := fun r hr => (List.mem_append.mp hr).elim (h r) (k r)
theorem dvals_pos {d : Int} (h : d ∈ dvals) : 0 ≤ d ∧ d ≤ 997 := by
  simp only [dvals, List.mem_cons, List.not_mem_nil, or_false] at h
  omega
theorem ints1 (a : Int) : G_are_integers [.tuple [.int a], .int 1] = some (.bool true) := by
  have h1 : G_is_integer [.int a] = some (.bool true) := rfl
  have h2 : dIsi "tuple" (.tuple [.int a]) = some (.bool true) := rfl
  have h3 : dEq (.int 1) (.int 1) = some (.bool true) := rfl
  simp [G_are_integers, fFn, m_are_integers, fRet, fVal, fAnd, fTst, fU1, fVar, h1, h2, h3, fB2, fCall, fCons, fNil, dLen, fQ, fSeqI, DL.itemsD, gLoop, wipeE, sName, fUs, pure1, isDict, fnOut]
theorem row_ok {r : Int × Int} (h : okRow r) : G_is_row_in [.int 1, rowD r] = some (.bool true) := by
  have h1 := ints1 r.2
  have h2 : dIsi "tuple" (rowD r) = some (.bool true) := rfl
  have h3 : dEq (.int 2) (.int 2) = some (.bool true) := rfl
  have h4 : G_is_natural [.int r.1] = some (.bool true) := by
    have e : G_is_natural [.int r.1] = some (.bool (decide (0 ≤ r.1))) := rfl
    rw [e, decide_eq_true (dvals_pos h.1).1]
  have h5 : dIx (rowD r) (.int 0) = some (.int r.1) := rfl
  have h6 : dIx (rowD r) (.int 1) = some (.tuple [.int r.2]) := rfl
  have h7 : dLen [rowD r] = some (.int 2) := rfl
  simp [G_is_row_in, fFn, m_is_row_in, fRet, fVal, fAnd, fTst, fU1, fVar, fC, h1, h2, h3, h4, h5, h6, h7, fB2, fCall, fCons, fNil, fUs, pure1, isDict, fnOut]
theorem lot_ok {l : List (Int × Int)} (h : OkL l) : G_is_lot_in [.int 1, lotD l] = some (.bool true) := by
  have hall : ∀ s : Src, gLoop false (sName 2) (fUs (pure1 G_is_row_in) (fCons (fVar 0) (fCons (fVar 2) (fNil)))) [some (.int 1), some (lotD l), none] (l.map rowD) s = some (true, s) := fun s => by
    rw [g_map rowD (fun _ => true)]
    · rw [if_neg Bool.false_ne_true, List.all_eq_true.mpr fun _ _ => rfl]
    · intro r hr
      refine ⟨[some (.int 1), some (lotD l), some (rowD r)], rfl, ?_⟩
      have e := row_ok (h r hr)
      simp [fUs, pure1, fCons, fNil, fVar, e]
  have hty : dIsi "tuple" (lotD l) = some (.bool true) := rfl
  have hit : DL.itemsD (lotD l) = some (l.map rowD) := rfl
  simp [G_is_lot_in, fFn, m_is_lot_in, fRet, fVal, fAnd, fTst, fU1, fVar, hty, fQ, fSeqI, hit, wipeE, hall, isDict, fnOut]
theorem check_lot_ok {l : List (Int × Int)} (h : OkL l) : G_check_lot [.int 1, lotD l] = some .none := by
  have e := lot_ok h
  simp [G_check_lot, fFn, m_check_lot, fIfS, fNot, fTst, fUs, pure1, fCons, fNil, fVar, e, fNx, fnOut]
def mz (l : List (Int × Int)) : Bool := l.any fun r => r.1 == 0 && !(r.2 == 0)
theorem mz_app (l m : List (Int × Int)) : mz (l ++ m) = (mz l || mz m) := by
  unfold mz
  rw [List.any_append]
theorem eq0 (v : Int) : dEq (.int v) (.int 0) = some (.bool (v == 0)) := rfl
theorem ne0 (v : Int) : dNe (.int v) (.int 0) = some (.bool (!(v == 0))) := rfl
theorem gt0 (v : Int) : dGt (.int v) (.int 0) = some (.bool (decide (0 < v))) := rfl
theorem mz_ok (l : List (Int × Int)) : G_makes_zero [lotD l] = some (.bool (mz l)) := by
  have hall : ∀ s : Src, gLoop true (sTup (sCons (sName 1) (sCons (sName 2) (sNil)))) (fVal (fAnd (fTst (fB2 dEq (fVar 1) (fC (.int 0)))) (fTst (fB2 dNe (fB2 dIx (fVar 2) (fC (.int 0))) (fC (.int 0)))))) [some (lotD l), none, none] (l.map rowD) s = some (mz l, s) := fun s => by
    rw [g_map rowD (fun r => r.1 == 0 && !(r.2 == 0))]
    · rfl
    · intro r hr
      refine ⟨[some (lotD l), some (.int r.1), some (.tuple [.int r.2])], rfl, ?_⟩
      have e : dIx (.tuple [.int r.2]) (.int 0) = some (.int r.2) := rfl
      by_cases h : r.1 = 0
      · simp [fVal, fAnd, fTst, fB2, fVar, fC, eq0, ne0, e, h]
      · simp [fVal, fAnd, fTst, fB2, fVar, fC, eq0, ne0, e, h]
  have hit : DL.itemsD (lotD l) = some (l.map rowD) := rfl
  simp [G_makes_zero, fFn, m_makes_zero, fRet, fQ, fSeqI, fVar, hit, wipeE, hall, isDict, fnOut]
def prs : List Int := [2, 3, 5, 7, 11]
def dom : List Int := dvals ++ (List.range 33).map fun (n : Nat) => ((n : Nat) : Int) - 16
def exB (p n : Int) : Bool := n == 0 || (match G_exponent_of [.int p, .int n] with
  | some (.int e) => decide (0 ≤ e) && decide (e ≤ 4)
  | _ => false)
theorem ex_all : (prs.all fun p => dom.all (exB p)) = true := by decide +kernel
theorem ex_ok {p n : Int} (hp : p ∈ prs) (hn : n ∈ dom) (h0 : n ≠ 0) : ∃ e, G_exponent_of [.int p, .int n] = some (.int e) ∧ 0 ≤ e ∧ e ≤ 4 := by
  have h := List.all_eq_true.mp (List.all_eq_true.mp ex_all p hp) n hn
  unfold exB at h
  rw [beq_false_of_ne h0, Bool.false_or] at h
  split at h
  · rename_i e he
    rw [Bool.and_eq_true, decide_eq_true_eq, decide_eq_true_eq] at h
    exact ⟨e, he, h⟩
  · cases h
theorem dom_d {d : Int} (h : d ∈ dvals) : d ∈ dom := List.mem_append_left _ h
theorem dom_a {a : Int} (h1 : -16 ≤ a) (h2 : a ≤ 16) : a ∈ dom := by
  refine List.mem_append_right _ (List.mem_map.mpr ⟨(a + 16).toNat, List.mem_range.mpr (by omega), by omega⟩)
end Law
namespace Law
open PySem PySem.Spec PyProof.Rows L2 GX DL Ord
/-! products of orders -/
def gcdI (a b : Int) : Int := ((Nat.gcd a.natAbs b.natAbs : Nat) : Int)
def ownR (r : Int × Int) : Int := if r.1 > 0 then r.1 / gcdI r.1 r.2 else 1
def mstep (f : Int) (r : Int × Int) : Int := f * ownR r / gcdI f (ownR r)
def mlt (l : List (Int × Int)) : Int := if mz l = true then 0 else l.foldl mstep 1
theorem gcd_pos {a b : Int} (h : 0 < a) : 0 < gcdI a b ∧ gcdI a b ≤ a ∧ gcdI a b ∣ a ∧ gcdI a b ∣ b := by
  have h1 : 0 < Nat.gcd a.natAbs b.natAbs := Nat.gcd_pos_of_pos_left _ (by omega)
  have h2 := Nat.gcd_le_left b.natAbs (show 0 < a.natAbs by omega)
  unfold gcdI
  refine ⟨by omega, by omega, ?_, ?_⟩
  · exact Int.ofNat_dvd_left.mpr (Nat.gcd_dvd_left _ _)
  · exact Int.ofNat_dvd_left.mpr (Nat.gcd_dvd_right _ _)
theorem own_ok2 {r : Int × Int} (h : okRow r) : 1 ≤ ownR r ∧ ownR r ≤ 997 := by
  obtain ⟨h0, h1⟩ := dvals_pos h.1
  unfold ownR
  split
  · rename_i hp
    obtain ⟨g1, g2, g3, _⟩ := gcd_pos (a := r.1) (b := r.2) hp
    refine ⟨?_, ?_⟩
    · exact (Int.le_ediv_iff_mul_le g1).mpr (by omega)
    · exact Int.le_trans (Int.ediv_le_self _ h0) h1
  · omega
theorem mstep_ok {f : Int} {r : Int × Int} (h : okRow r) (hf : 1 ≤ f) : f ≤ mstep f r ∧ mstep f r ≤ f * 997 := by
  obtain ⟨h1, h2⟩ := own_ok2 h
  obtain ⟨g1, g2, g3, g4⟩ := gcd_pos (a := f) (b := ownR r) (by omega)
  unfold mstep
  have e : f * ownR r / gcdI f (ownR r) = f * (ownR r / gcdI f (ownR r)) := Int.mul_ediv_assoc _ g4
  rw [e]
  have q1 : 1 ≤ ownR r / gcdI f (ownR r) := (Int.le_ediv_iff_mul_le g1).mpr (by rw [Int.one_mul]; exact Int.le_of_dvd (by omega) g4)
  have q2 : ownR r / gcdI f (ownR r) ≤ 997 := Int.le_trans (Int.ediv_le_self _ (by omega)) h2
  refine ⟨?_, Int.mul_le_mul_of_nonneg_left q2 (by omega)⟩
  have := Int.mul_le_mul_of_nonneg_left q1 (show 0 ≤ f by omega)
  omega
theorem mfold : ∀ (l : List (Int × Int)) (f : Int), OkL l → 1 ≤ f → f ≤ l.foldl mstep f ∧ l.foldl mstep f ≤ f * 997 ^ l.length
  | [], f, _, _ => ⟨Int.le_refl _, by simp⟩
  | r :: l, f, h, hf => by
    obtain ⟨a, b⟩ := mstep_ok (h r List.mem_cons_self) hf
    obtain ⟨c, d⟩ := mfold l (mstep f r) (fun x hx => h x (List.mem_cons_of_mem _ hx)) (by omega)
    refine ⟨Int.le_trans a c, Int.le_trans d ?_⟩
    rw [List.length_cons, Int.pow_succ, Int.mul_comm (997 ^ l.length) 997, ← Int.mul_assoc]
    exact Int.mul_le_mul_of_nonneg_right b (Int.pow_nonneg (by decide))
theorem pow997 {n : Nat} (h : n ≤ 4) : (997 : Int) ^ n ≤ 988053892081 := by
  match n, h with
  | 0, _ => decide
  | 1, _ => decide
  | 2, _ => decide
  | 3, _ => decide
  | 4, _ => decide
def mB : FS := (fSeq (fSet 4 (fIf (fTst (fB2 dGt (fVar 2) (fC (.int 0)))) (fB2 dDiv (fVar 2) (fCall dGcd (fCons (fVar 2) (fCons (fB2 dIx (fVar 3) (fC (.int 0))) (fNil))))) (fC (.int 1)))) (fSet 1 (fB2 dDiv (fB2 dMulI (fVar 1) (fVar 4)) (fCall dGcd (fCons (fVar 1) (fCons (fVar 4) (fNil)))))))
theorem mult_ok {l : List (Int × Int)} (h : OkL l) (hl : l.length ≤ 4) : G_multiple_in [lotD l] = some (.int (mlt l)) := by
  have hmz := mz_ok l
  have hit : DL.itemsD (lotD l) = some (l.map rowD) := rfl
  unfold mlt
  cases hz : mz l with
  | true =>
    rw [hz] at hmz
    simp [G_multiple_in, fFn, m_multiple_in, fSeq, fIfS, fTst, fUs, pure1, fCons, fNil, fVar, hmz, fRet, fC, isDict, fnOut]
  | false =>
    rw [hz] at hmz
    obtain ⟨ρ1, s1, e1, hs, a, b, c, hρ⟩ := fLoop_ok (set := sTup (sCons (sName 2) (sCons (sName 3) (sNil)))) (body := mB)
      (I := fun k ρ s => s = (0, 0, 0) ∧ ∃ a b c, ρ = [some (lotD l), some (.int ((l.take k).foldl mstep 1)), a, b, c])
      (l.map rowD) 0 [some (lotD l), some (.int 1), none, none, none] (0, 0, 0) ⟨rfl, _, _, _, rfl⟩ (fun k d ρ s hk ⟨hs, a, b, c, hρ⟩ => by
        rw [Nat.zero_add] at hρ ⊢
        rw [List.getElem?_map] at hk
        cases hx : l[k]? with
        | none => rw [hx] at hk; cases hk
        | some r =>
          rw [hx] at hk
          cases hk
          subst hs hρ
          have hr := h r (List.mem_of_getElem? hx)
          have hk4 : k < l.length := (List.getElem?_eq_some_iff.mp hx).1
          have htl : ∀ x ∈ l.take k, okRow x := fun x hx => h x (List.mem_of_mem_take hx)
          obtain ⟨f1, f2⟩ := mfold (l.take k) 1 htl (by decide)
          have hlen : (l.take k).length ≤ 4 := by rw [List.length_take]; omega
          have f3 := pow997 hlen
          rw [Int.one_mul] at f2
          generalize hf : (l.take k).foldl mstep 1 = f at *
          have et : (l.take (k + 1)).foldl mstep 1 = mstep f r := by
            rw [List.take_add_one, hx, List.foldl_append, hf]
            rfl
          obtain ⟨o1, o2⟩ := own_ok2 hr
          obtain ⟨g1, g2, _, _⟩ := gcd_pos (a := f) (b := ownR r) (by omega)
          have x0 : dIx (.tuple [.int r.2]) (.int 0) = some (.int r.2) := rfl
          have x1 : dGcd [.int r.1, .int r.2] = some (.int (gcdI r.1 r.2)) := rfl
          have x2 : dGcd [.int f, .int (ownR r)] = some (.int (gcdI f (ownR r))) := rfl
          have x3 := dMul_ok (i := f) (j := ownR r) 100 100 (by omega) (by omega) (by decide) (by decide) (by decide)
          have x4 := dDiv_ok (i := f * ownR r) (j := gcdI f (ownR r)) g1 (by omega)
          refine ⟨[some (lotD l), some (.int f), some (.int r.1), some (.tuple [.int r.2]), c], .nx, [some (lotD l), some (.int (mstep f r)), some (.int r.1), some (.tuple [.int r.2]), some (.int (ownR r))], (0, 0, 0), rfl, ?_, .inl rfl, rfl, _, _, _, by rw [et]⟩
          by_cases hp : 0 < r.1
          · obtain ⟨p1, p2, _, _⟩ := gcd_pos (a := r.1) (b := r.2) hp
            have p3 := (dvals_pos hr.1).2
            have x5 := dDiv_ok (i := r.1) (j := gcdI r.1 r.2) p1 (by omega)
            have eo : r.1 / gcdI r.1 r.2 = ownR r := by unfold ownR; rw [if_pos hp]
            rw [eo] at x5
            have em : f * ownR r / gcdI f (ownR r) = mstep f r := rfl
            rw [em] at x4
            simp [mB, fSeq, fSet, fIf, fTst, fB2, fVar, fC, gt0, hp, fCall, fCons, fNil, x0, x1, x2, x3, x4, x5]
          · have eo : ownR r = 1 := by unfold ownR; rw [if_neg (by omega)]
            have em : f * ownR r / gcdI f (ownR r) = mstep f r := rfl
            rw [em] at x4
            rw [eo] at x2 x3 x4
            rw [Int.mul_one] at x3 x4
            simp [mB, fSeq, fSet, fIf, fTst, fB2, fVar, fC, gt0, hp, fCall, fCons, fNil, x2, x3, x4, eo])
    subst hs hρ
    rw [List.length_map, Nat.zero_add, List.take_length] at e1
    rw [mB] at e1
    simp only [G_multiple_in, fFn, m_multiple_in, fSeq, fIfS, fTst, fUs, pure1, fCons, fNil, fVar, fC, fSet, fFor, fSeqI, hmz, hit, fNx, Bool.false_eq_true, if_false, List.nil_append, List.map_cons, List.map_nil, List.cons_append, List.length_cons, List.length_nil, List.replicate, List.getD_cons_zero, Option.map_some, Option.bind_some, List.set_cons_succ, List.set_cons_zero, e1]
    simp [fRet, fVar, isDict, fnOut]
/-! powers -/
theorem raised_ok {p k : Int} (b : Nat) (hp : 1 ≤ p) (hb : p.natAbs < 2 ^ b) (hb1 : 1 ≤ b) (hk0 : -100 ≤ k) (hk : k ≤ 40) (hbk : b ≤ 2000) : G_raised [.int p, .int k] = some (.int (p ^ k.toNat)) := by
  · have hr : dRange1 [.int k] = some (rangeD 0 k.toNat) := by
      show (if -(2 ^ 62) ≤ k ∧ k < 2 ^ 62 then some (rangeD 0 k.toNat) else none) = _
      rw [if_pos ⟨by omega, by omega⟩]
    obtain ⟨ρ1, s1, e1, hs, a, hρ⟩ := fLoop_ok (set := sName 3) (body := fSet 2 (fB2 dMulI (fVar 2) (fVar 0)))
      (I := fun j ρ s => s = (0, 0, 0) ∧ ∃ a, ρ = [some (.int p), some (.int k), some (.int (p ^ j)), a])
      (rangeD 0 k.toNat) 0 [some (.int p), some (.int k), some (.int 1), none] (0, 0, 0) ⟨rfl, none, by rw [Int.pow_zero]⟩ (fun j d ρ s hj ⟨hs, a, hρ⟩ => by
        rw [Nat.zero_add] at hρ ⊢
        subst hs hρ
        have hj40 : j < 40 := by
          have := (List.getElem?_eq_some_iff.mp hj).1
          rw [rangeD_length] at this
          omega
        have hn : (p ^ j).natAbs < 2 ^ (b * j + 1) := by
          rw [Int.natAbs_pow]
          have h1 : p.natAbs ^ j ≤ (2 ^ b) ^ j := Nat.pow_le_pow_left (Nat.le_of_lt hb) j
          rw [← Nat.pow_mul] at h1
          rw [Nat.pow_succ]
          have := Nat.pow_pos (n := b * j) (show 0 < 2 by decide)
          omega
        have hbj : b * j ≤ 2000 * 40 := Nat.mul_le_mul hbk (by omega)
        have x := dMul_ok (i := p ^ j) (j := p) (b * j + 1) b hn hb (by omega) (by omega) (by omega)
        refine ⟨[some (.int p), some (.int k), some (.int (p ^ j)), some d], .nx, [some (.int p), some (.int k), some (.int (p ^ j * p)), some d], (0, 0, 0), rfl, ?_, .inl rfl, rfl, some d, by rw [Int.pow_succ]⟩
        simp [fSet, fB2, fVar, x])
    rw [rangeD_length, Nat.zero_add] at hρ
    subst hs hρ
    simp only [G_raised, fFn, m_raised, fSeq, fSet, fFor, fRng, fC, fCons, fNil, fVar, hr, Bool.false_eq_true, if_false, List.nil_append, List.map_cons, List.map_nil, List.cons_append, List.length_cons, List.length_nil, List.replicate, List.getD_cons_zero, List.getD_cons_succ, Option.map_some, Option.bind_some, List.set_cons_succ, List.set_cons_zero, e1]
    simp [fRet, fVar, isDict, fnOut]
end Law
namespace Law
open PySem PySem.Spec PyProof.Rows L2 GX DL Ord
theorem ex_d {p : Int} {r : Int × Int} (hp : p ∈ prs) (hr : okRow r) (h : r.1 > 0) : ∃ e, G_exponent_of [.int p, .int r.1] = some (.int e) ∧ 0 ≤ e ∧ e ≤ 4 := ex_ok hp (dom_d hr.1) (by omega)
theorem ex_a {p : Int} {r : Int × Int} (hp : p ∈ prs) (hr : okRow r) (h : r.2 ≠ 0) : ∃ e, G_exponent_of [.int p, .int r.2] = some (.int e) ∧ 0 ≤ e ∧ e ≤ 4 := ex_ok hp (dom_a hr.2.1 hr.2.2) h
def eB : FS := (fIfS (fTst (fB2 dNe (fVar 5) (fC (.int 0)))) (fSeq (fSet 6 (fIf (fTst (fB2 dGt (fVar 4) (fC (.int 0)))) (fCall dMin2 (fCons (fVar 2) (fCons (fUs (pure1 G_exponent_of) (fCons (fVar 0) (fCons (fVar 4) (fNil)))) (fNil)))) (fVar 2))) (fSet 3 (fCall dMax2 (fCons (fVar 3) (fCons (fB2 dSub (fVar 6) (fUs (pure1 G_exponent_of) (fCons (fVar 0) (fCons (fVar 5) (fNil))))) (fNil)))))) (fNx))
theorem expin_ok {p most : Int} {l : List (Int × Int)} (hp : p ∈ prs) (h : OkL l) (h0 : 0 ≤ most) (h1 : most ≤ 4) : ∃ e, G_exponent_in [.int p, lotD l, .int most] = some (.int e) ∧ 0 ≤ e ∧ e ≤ 4 := by
  have hit : DL.itemsD (lotD l) = some (l.map rowD) := rfl
  have hmin : ∀ i j : Int, dMin2 [.int i, .int j] = some (.int (if j < i then j else i)) := fun _ _ => rfl
  have hmax : ∀ i j : Int, dMax2 [.int i, .int j] = some (.int (if j > i then j else i)) := fun _ _ => rfl
  have hsub : ∀ i j : Int, dSub (.int i) (.int j) = some (.int (i - j)) := fun _ _ => rfl
  obtain ⟨ρ1, s1, e1, hs, f, a, b, c, hρ, f0, f1⟩ := fLoop_ok (set := sTup (sCons (sName 4) (sCons (sTup (sCons (sName 5) (sNil))) (sNil)))) (body := eB)
    (I := fun k ρ s => s = (0, 0, 0) ∧ ∃ f a b c, ρ = [some (.int p), some (lotD l), some (.int most), some (.int f), a, b, c] ∧ 0 ≤ f ∧ f ≤ 4)
    (l.map rowD) 0 [some (.int p), some (lotD l), some (.int most), some (.int 0), none, none, none] (0, 0, 0) ⟨rfl, 0, none, none, none, rfl, by omega, by omega⟩ (fun k d ρ s hk ⟨hs, f, a, b, c, hρ, f0, f1⟩ => by
      rw [List.getElem?_map] at hk
      cases hx : l[k]? with
      | none => rw [hx] at hk; cases hk
      | some r =>
        rw [hx] at hk
        cases hk
        subst hs hρ
        have hr := h r (List.mem_of_getElem? hx)
        by_cases ha : r.2 = 0
        · refine ⟨[some (.int p), some (lotD l), some (.int most), some (.int f), some (.int r.1), some (.int r.2), c], .nx, [some (.int p), some (lotD l), some (.int most), some (.int f), some (.int r.1), some (.int r.2), c], (0, 0, 0), rfl, ?_, .inl rfl, rfl, f, some (.int r.1), some (.int r.2), c, rfl, f0, f1⟩
          simp [eB, fIfS, fTst, fB2, fVar, fC, ne0, ha, fNx]
        · obtain ⟨x, x1, x2, x3⟩ := ex_a hp hr ha
          by_cases hd : 0 < r.1
          · obtain ⟨y, y1, y2, y3⟩ := ex_d hp hr hd
            refine ⟨[some (.int p), some (lotD l), some (.int most), some (.int f), some (.int r.1), some (.int r.2), c], .nx, [some (.int p), some (lotD l), some (.int most), some (.int (if (if y < most then y else most) - x > f then (if y < most then y else most) - x else f)), some (.int r.1), some (.int r.2), some (.int (if y < most then y else most))], (0, 0, 0), rfl, ?_, .inl rfl, rfl, _, _, _, _, rfl, ?_, ?_⟩
            · simp [eB, fIfS, fTst, fB2, fVar, fC, ne0, ha, fSeq, fSet, fIf, gt0, hd, fCall, fCons, fNil, fUs, pure1, x1, y1, hmin, hmax, hsub]
            · split <;> omega
            · split <;> split <;> omega
          · refine ⟨[some (.int p), some (lotD l), some (.int most), some (.int f), some (.int r.1), some (.int r.2), c], .nx, [some (.int p), some (lotD l), some (.int most), some (.int (if most - x > f then most - x else f)), some (.int r.1), some (.int r.2), some (.int most)], (0, 0, 0), rfl, ?_, .inl rfl, rfl, _, _, _, _, rfl, ?_, ?_⟩
            · simp [eB, fIfS, fTst, fB2, fVar, fC, ne0, ha, fSeq, fSet, fIf, gt0, hd, fCall, fCons, fNil, fUs, pure1, x1, hmax, hsub]
            · split <;> omega
            · split <;> omega)
  subst hs hρ
  rw [eB] at e1
  refine ⟨f, ?_, f0, f1⟩
  simp only [G_exponent_in, fFn, m_exponent_in, fSeq, fSet, fFor, fSeqI, fC, fCons, fNil, fVar, hit, Bool.false_eq_true, if_false, List.nil_append, List.map_cons, List.map_nil, List.cons_append, List.length_cons, List.length_nil, List.replicate, List.getD_cons_zero, List.getD_cons_succ, Option.map_some, Option.bind_some, List.set_cons_succ, List.set_cons_zero, e1]
  simp [fRet, fVar, isDict, fnOut]
theorem intsD_map {α : Type} (f : α → Int) (l : List α) : intsD (l.map fun x => PyData.int (f x)) = some (l.map f) := by
  induction l with
  | nil => rfl
  | cons x r ih => rw [List.map_cons, intsD, ih]; rfl
def exV (p n : Int) : Int := match G_exponent_of [.int p, .int n] with
  | some (.int e) => e
  | _ => 0
theorem exV_of {p n e : Int} (h : G_exponent_of [.int p, .int n] = some (.int e)) : exV p n = e := by
  unfold exV
  rw [h]
theorem tors_ok {p : Int} {l : List (Int × Int)} (hp : p ∈ prs) (h : OkL l) (hl : l.length ≤ 1000) (hz : mz l = true) : ∃ e, G_torsion_in [.int p, lotD l] = some (.int e) ∧ (0 ≤ e ∧ e ≤ 4) ∧ (∃ x ∈ l, x.1 = 0 ∧ x.2 ≠ 0 ∧ e = exV p x.2) ∧ ∀ x ∈ l, x.1 = 0 → x.2 ≠ 0 → e ≤ exV p x.2 := by
  have hit : DL.itemsD (lotD l) = some (l.map rowD) := rfl
  have hlen : (l.map rowD).length ≤ 1000000 := by rw [List.length_map]; omega
  have hlc : ∀ s : Src, lcLoop (sTup (sCons (sName 2) (sCons (sTup (sCons (sName 3) (sNil))) (sNil)))) (fAnd (fTst (fB2 dEq (fVar 2) (fC (.int 0)))) (fTst (fB2 dNe (fVar 3) (fC (.int 0))))) (fUs (pure1 G_exponent_of) (fCons (fVar 0) (fCons (fVar 3) (fNil)))) [some (.int p), some (lotD l), none, none] (l.map rowD) s = some (((l.filter fun r => r.1 == 0 && !(r.2 == 0)).map fun r => PyData.int (exV p r.2)), s) := fun s => by
    rw [lc_map rowD (fun r => r.1 == 0 && !(r.2 == 0)) (fun r => .int (exV p r.2))]
    intro r hr
    refine ⟨[some (.int p), some (lotD l), some (.int r.1), some (.int r.2)], rfl, ?_, fun hq => ?_⟩
    · by_cases h0 : r.1 = 0
      · simp [fAnd, fTst, fB2, fVar, fC, eq0, ne0, h0]
      · simp [fAnd, fTst, fB2, fVar, fC, eq0, ne0, h0]
    · rw [Bool.and_eq_true] at hq
      have ha : r.2 ≠ 0 := by simpa using hq.2
      obtain ⟨e, e1, _⟩ := ex_a hp (h r hr) ha
      have e2 := exV_of e1
      simp [fUs, pure1, fCons, fNil, fVar, e1, e2]
  have hne : ∃ r t, (l.filter fun r => r.1 == 0 && !(r.2 == 0)) = r :: t := by
    cases hf : l.filter fun r => r.1 == 0 && !(r.2 == 0) with
    | cons r t => exact ⟨r, t, rfl⟩
    | nil =>
      unfold mz at hz
      obtain ⟨r, hr, hq⟩ := List.any_eq_true.mp hz
      have := List.filter_eq_nil_iff.mp hf r hr
      exact absurd hq this
  obtain ⟨r, t, hf⟩ := hne
  have bnd : ∀ x ∈ r :: t, 0 ≤ exV p x.2 ∧ exV p x.2 ≤ 4 := fun x hx => by
    rw [← hf] at hx
    obtain ⟨h1, h2⟩ := List.mem_filter.mp hx
    rw [Bool.and_eq_true] at h2
    obtain ⟨e, e1, e2, e3⟩ := ex_a hp (h x h1) (by simpa using h2.2)
    rw [exV_of e1]
    exact ⟨e2, e3⟩
  have hm := minI_mem (t.map fun x => exV p x.2) (exV p r.2)
  have hmn : dMinL [.list ((r :: t).map fun x => PyData.int (exV p x.2))] = some (.int ((t.map fun x => exV p x.2).foldl (fun a b => if b < a then b else a) (exV p r.2))) := by
    show (intsD _).bind _ = _
    rw [intsD_map (fun x : Int × Int => exV p x.2) (r :: t)]
    rfl
  rw [hf] at hlc
  refine ⟨(t.map fun x => exV p x.2).foldl (fun a b => if b < a then b else a) (exV p r.2), ?_, ?_⟩
  rotate_left
  · have key : ∀ m, (m = exV p r.2 ∨ m ∈ t.map fun x => exV p x.2) → 0 ≤ m ∧ m ≤ 4 := fun m hm => by
      rcases hm with rfl | hm
      · exact bnd r List.mem_cons_self
      · obtain ⟨x, hx, rfl⟩ := List.mem_map.mp hm
        exact bnd x (List.mem_cons_of_mem _ hx)
    refine ⟨key _ hm.1, ?_, fun x hx z0 z1 => ?_⟩
    · have back : ∀ x ∈ r :: t, x ∈ l ∧ x.1 = 0 ∧ x.2 ≠ 0 := fun x hx => by
        rw [← hf] at hx
        obtain ⟨h1, h2⟩ := List.mem_filter.mp hx
        rw [Bool.and_eq_true] at h2
        exact ⟨h1, by simpa using h2.1, by simpa using h2.2⟩
      rcases hm.1 with e | e
      · obtain ⟨a, b, c⟩ := back r List.mem_cons_self
        exact ⟨r, a, b, c, e⟩
      · obtain ⟨x, hx, e'⟩ := List.mem_map.mp e
        obtain ⟨a, b, c⟩ := back x (List.mem_cons_of_mem _ hx)
        exact ⟨x, a, b, c, e'.symm⟩
    have hx : x ∈ r :: t := by
      rw [← hf]
      exact List.mem_filter.mpr ⟨hx, by rw [z0, beq_false_of_ne z1]; rfl⟩
    rcases List.mem_cons.mp hx with e | e
    · rw [e]; exact hm.2.1
    · exact hm.2.2 _ (List.mem_map.mpr ⟨x, e, rfl⟩)
  · simp only [G_torsion_in, fFn, m_torsion_in, fRet, fCall, fLc, fSeqI, fVar, fCons, fNil, hit, hlen, wipeE, hlc, hmn, Bool.false_eq_true, if_false, if_true, List.nil_append, List.map_nil, List.cons_append, List.length_cons, List.length_nil, List.replicate, List.getD_cons_zero, List.getD_cons_succ, Option.map_some, Option.bind_some, List.set_cons_succ, List.set_cons_zero, isDict, fnOut, List.map_cons (f := some)]
theorem great_ok {p : Int} {l : List (Int × Int)} (hp : p ∈ prs) (h : OkL l) (hl : l.length ≤ 1000) : ∃ e, G_greatest_exponent [.int p, lotD l] = some (.int e) ∧ (0 ≤ e ∧ e ≤ 4) ∧ ∀ x ∈ l, 0 < x.1 → exV p x.1 ≤ e := by
  have hit : DL.itemsD (lotD l) = some (l.map rowD) := rfl
  have hlen : (l.map rowD).length ≤ 1000000 := by rw [List.length_map]; omega
  have hlc : ∀ s : Src, lcLoop (sTup (sCons (sName 2) (sCons (sName 3) (sNil)))) (fTst (fB2 dGt (fVar 2) (fC (.int 0)))) (fUs (pure1 G_exponent_of) (fCons (fVar 0) (fCons (fVar 2) (fNil)))) [some (.int p), some (lotD l), none, none] (l.map rowD) s = some (((l.filter fun r => decide (0 < r.1)).map fun r => PyData.int (exV p r.1)), s) := fun s => by
    rw [lc_map rowD (fun r => decide (0 < r.1)) (fun r => .int (exV p r.1))]
    intro r hr
    refine ⟨[some (.int p), some (lotD l), some (.int r.1), some (.tuple [.int r.2])], rfl, ?_, fun hq => ?_⟩
    · simp [fTst, fB2, fVar, fC, gt0]
    · obtain ⟨e, e1, _⟩ := ex_d hp (h r hr) (of_decide_eq_true hq)
      have e2 := exV_of e1
      simp [fUs, pure1, fCons, fNil, fVar, e1, e2]
  generalize hf : l.filter (fun r => decide (0 < r.1)) = t at hlc
  have bnd : ∀ x ∈ t, 0 ≤ exV p x.1 ∧ exV p x.1 ≤ 4 := fun x hx => by
    rw [← hf] at hx
    obtain ⟨h1, h2⟩ := List.mem_filter.mp hx
    obtain ⟨e, e1, e2, e3⟩ := ex_d hp (h x h1) (of_decide_eq_true h2)
    rw [exV_of e1]
    exact ⟨e2, e3⟩
  have htl : t.length ≤ l.length := by rw [← hf]; exact List.length_filter_le _ _
  have hm := maxI_mem (t.map fun x => exV p x.1) 0
  have hcat : dCat (.list [.int 0]) (.list (t.map fun x => PyData.int (exV p x.1))) = some (.list (.int 0 :: t.map fun x => PyData.int (exV p x.1))) := by
    show (if [PyData.int 0].length + (t.map fun x => PyData.int (exV p x.1)).length ≤ sizeLine then some (PyData.list ([.int 0] ++ t.map fun x => PyData.int (exV p x.1))) else none) = _
    rw [if_pos]
    · rfl
    · rw [List.length_map]
      exact Nat.le_trans (show [PyData.int 0].length + t.length ≤ 2000 by simp only [List.length_cons, List.length_nil]; omega) (by decide)
  have hmx : dMaxL [.list (.int 0 :: t.map fun x => PyData.int (exV p x.1))] = some (.int ((t.map fun x => exV p x.1).foldl (fun a b => if b > a then b else a) 0)) := by
    show (intsD (.int 0 :: t.map fun x => PyData.int (exV p x.1))).bind _ = _
    rw [intsD, intsD_map (fun x : Int × Int => exV p x.1) t]
    rfl
  refine ⟨(t.map fun x => exV p x.1).foldl (fun a b => if b > a then b else a) 0, ?_, ?_⟩
  rotate_left
  · have key : ∀ m, (m = 0 ∨ m ∈ t.map fun x => exV p x.1) → 0 ≤ m ∧ m ≤ 4 := fun m hm => by
      rcases hm with rfl | hm
      · omega
      · obtain ⟨x, hx, rfl⟩ := List.mem_map.mp hm
        exact bnd x hx
    refine ⟨key _ hm.1, fun x hx z0 => ?_⟩
    refine hm.2.2 _ (List.mem_map.mpr ⟨x, ?_, rfl⟩)
    rw [← hf]
    exact List.mem_filter.mpr ⟨hx, decide_eq_true z0⟩
  · simp only [G_greatest_exponent, fFn, m_greatest_exponent, fRet, fCall, fLc, fSeqI, fVar, fCons, fNil, fB2, fLst, fC, hit, hlen, wipeE, hlc, hcat, hmx, Bool.false_eq_true, if_false, if_true, List.nil_append, List.map_cons (f := some), List.map_nil, List.cons_append, List.length_cons, List.length_nil, List.replicate, List.getD_cons_zero, List.getD_cons_succ, Option.map_some, Option.bind_some, List.set_cons_succ, List.set_cons_zero, Nat.reduceAdd, Nat.reduceLeDiff, isDict, fnOut]
end Law
namespace Law
open PySem PySem.Spec PyProof.Rows L2 GX DL Ord
/-! the index in one part -/
def opt (r : Option Int) : D := match r with
  | some v => .int v
  | none => .none
def hd (i : Nat) : D := (dIx (P i) (.int 0)).getD .none
theorem f_hd {i : Nat} (hi : i < 32) : dIx (P i) (.int 0) = some (hd i) := by
  have h := all32 (p := fun i => (dIx (P i) (.int 0)).isSome) (by decide +kernel) hi
  unfold hd
  cases e : dIx (P i) (.int 0) with
  | none => rw [e] at h; cases h
  | some k => rfl
theorem f_line {i : Nat} (hi : i < 32) : dEq (hd i) (.str "line") = some (.bool (decide (i = 11))) := eqB_eq (all32 (p := fun i => eqB (dEq (hd i) (.str "line")) (decide (i = 11))) (by decide +kernel) hi)
theorem f_ring {i : Nat} (hi : i < 32) : dEq (hd i) (.str "ring") = some (.bool (decide (12 ≤ i))) := eqB_eq (all32 (p := fun i => eqB (dEq (hd i) (.str "ring")) (decide (12 ≤ i))) (by decide +kernel) hi)
theorem f_deep {i : Nat} (hi : i < 32) : dEq (hd i) (.str "deep") = some (.bool (decide (6 ≤ i ∧ i ≤ 10))) := eqB_eq (all32 (p := fun i => eqB (dEq (hd i) (.str "deep")) (decide (6 ≤ i ∧ i ≤ 10))) (by decide +kernel) hi)
theorem f_allh {i : Nat} (hi : i < 32) : dEq (hd i) (.str "all") = some (.bool (decide (i = 0))) := eqB_eq (all32 (p := fun i => eqB (dEq (hd i) (.str "all")) (decide (i = 0))) (by decide +kernel) hi)
theorem f_pr {i : Nat} (hi : i < 32) (h0 : i ≠ 0) (h1 : i ≠ 11) : ∃ p, dIx (P i) (.int 1) = some (.int p) ∧ p ∈ prs := by
  have h := all32 (p := fun i => i == 0 || (i == 11 || (match dIx (P i) (.int 1) with | some (.int p) => prs.contains p | _ => false))) (by decide +kernel) hi
  simp only [beq_false_of_ne h0, beq_false_of_ne h1, Bool.false_or] at h
  split at h
  · rename_i p hp
    exact ⟨p, hp, by simpa using h⟩
  · cases h
theorem f_kx {i : Nat} (hi : i < 32) (h0 : 12 ≤ i) : ∃ k, dIx (P i) (.int 2) = some (.int k) ∧ 1 ≤ k ∧ k ≤ 4 := by
  have h := all32 (p := fun i => decide (i < 12) || (match dIx (P i) (.int 2) with | some (.int k) => decide (1 ≤ k) && decide (k ≤ 4) | _ => false)) (by decide +kernel) hi
  rw [decide_eq_false (by omega), Bool.false_or] at h
  split at h
  · rename_i k hk
    rw [Bool.and_eq_true, decide_eq_true_eq, decide_eq_true_eq] at h
    exact ⟨k, hk, h⟩
  · cases h
theorem prs_pow {p : Int} {n : Nat} (hp : p ∈ prs) (hn : n ≤ 10) : 1 ≤ p ^ n ∧ p ^ n < 2 ^ 40 := by
  have h : (prs.all fun p => (List.range 11).all fun n => decide (1 ≤ p ^ n) && decide (p ^ n < 2 ^ 40)) = true := by decide +kernel
  have := List.all_eq_true.mp (List.all_eq_true.mp h p hp) n (List.mem_range.mpr (by omega))
  rw [Bool.and_eq_true, decide_eq_true_eq, decide_eq_true_eq] at this
  exact this
theorem prs_small {p : Int} (hp : p ∈ prs) : 2 ≤ p ∧ p ≤ 11 := by
  simp only [prs, List.mem_cons, List.not_mem_nil, or_false] at hp
  omega
theorem raised_small {p e : Int} (hp : p ∈ prs) (h0 : -10 ≤ e) (h1 : e ≤ 10) : ∃ v, G_raised [.int p, .int e] = some (.int v) ∧ 1 ≤ v ∧ v < 2 ^ 40 := by
  have := prs_small hp
  exact ⟨_, raised_ok 4 (by omega) (by omega) (by decide) (by omega) (by omega) (by decide), prs_pow hp (by omega)⟩
theorem mlt_pos {l : List (Int × Int)} (h : OkL l) (hl : l.length ≤ 4) (hz : mz l = false) : 1 ≤ mlt l ∧ mlt l ≤ 988053892081 := by
  unfold mlt
  rw [hz, if_neg Bool.false_ne_true]
  obtain ⟨a, b⟩ := mfold l 1 h (by decide)
  have := pow997 hl
  omega
theorem line_ok {one other : List (Int × Int)} (h1 : OkL one) (h2 : OkL other) (l1 : one.length ≤ 2) (l2 : other.length ≤ 2) :
    ∃ r : Option Int, G_index_of_line [lotD one, lotD (one ++ other)] = some (opt r) ∧ (∀ v, r = some v → 1 ≤ v ∧ v < 2 ^ 40) ∧ r.isNone = (mz other && !mz one) := by
  have e1 := mult_ok h1 (by omega)
  have e2 := mult_ok (h1.app h2) (by rw [List.length_append]; omega)
  have hz := mz_app one other
  cases z1 : mz one with
  | true =>
    have m1 : mlt one = 0 := by unfold mlt; rw [z1, if_pos rfl]
    have c : dEq (.int (mlt one)) (.int 0) = some (.bool true) := by rw [eq0, m1]; rfl
    refine ⟨some 1, ?_, fun v hv => ?_, by simp⟩
    · simp [G_index_of_line, fFn, m_index_of_line, fSeq, fPar, setAll, fUs, pure1, fCons, fNil, fVar, e1, e2, fIfS, fTst, fB2, fC, c, fRet, isDict, fnOut, opt]
    · cases hv; exact ⟨(by decide : (1 : Int) ≤ 1), (by decide : (1 : Int) < 2 ^ 40)⟩
  | false =>
    obtain ⟨a1, a2⟩ := mlt_pos h1 (by omega) z1
    have c : dEq (.int (mlt one)) (.int 0) = some (.bool false) := by
      rw [eq0, beq_false_of_ne (by omega)]
    rw [z1] at hz
    cases z2 : mz other with
    | true =>
      rw [z2] at hz
      have m2 : mlt (one ++ other) = 0 := by unfold mlt; rw [hz]; rfl
      have g : dGt (.int (mlt (one ++ other))) (.int 0) = some (.bool false) := by rw [gt0, m2]; rfl
      refine ⟨none, ?_, fun v hv => (nomatch hv), by simp⟩
      simp [G_index_of_line, fFn, m_index_of_line, fSeq, fPar, setAll, fUs, pure1, fCons, fNil, fVar, e1, e2, fIfS, fTst, fB2, fC, c, g, fNx, fIf, fRet, isDict, fnOut, opt]
    | false =>
      rw [z2] at hz
      have hz : mz (one ++ other) = false := hz
      obtain ⟨b1, b2⟩ := mlt_pos (h1.app h2) (by rw [List.length_append]; omega) hz
      have g : dGt (.int (mlt (one ++ other))) (.int 0) = some (.bool true) := by rw [gt0, decide_eq_true (by omega)]
      have dv := dDiv_ok (i := mlt (one ++ other)) (j := mlt one) (by omega) (by omega)
      have mono : mlt one ≤ mlt (one ++ other) := by
        unfold mlt
        rw [z1, hz, if_neg Bool.false_ne_true, if_neg Bool.false_ne_true, List.foldl_append]
        have := (mfold one 1 h1 (by decide)).1
        exact (mfold other _ h2 this).1
      refine ⟨some (mlt (one ++ other) / mlt one), ?_, fun v hv => ?_, by simp⟩
      · simp [G_index_of_line, fFn, m_index_of_line, fSeq, fPar, setAll, fUs, pure1, fCons, fNil, fVar, e1, e2, fIfS, fTst, fB2, fC, c, g, dv, fNx, fIf, fRet, isDict, fnOut, opt]
      · cases hv
        refine ⟨(Int.le_ediv_iff_mul_le (by omega)).mpr (by omega), ?_⟩
        have := Int.ediv_le_self (b := mlt one) (a := mlt (one ++ other)) (by omega)
        show _ / _ < _
        omega
theorem ip_ok {i : Nat} {one other : List (Int × Int)} (hi : i < 32) (h1 : OkL one) (h2 : OkL other) (l1 : one.length ≤ 2) (l2 : other.length ≤ 2) :
    ∃ r : Option Int, G_index_of_part [P i, lotD one, lotD (one ++ other)] = some (opt r) ∧ (∀ v, r = some v → 1 ≤ v ∧ v < 2 ^ 40) ∧ (i < 12 → r.isNone = (mz other && !mz one)) ∧ (12 ≤ i → r.isNone = false) ∧ (i = 0 → r = none ∨ r = some 1) := by
  have h12 := h1.app h2
  have l12 : (one ++ other).length ≤ 1000 := by rw [List.length_append]; omega
  have a1 := mz_ok one
  have a2 := mz_ok (one ++ other)
  rw [mz_app] at a2
  have sub : ∀ i j : Int, dSub (.int i) (.int j) = some (.int (i - j)) := fun _ _ => rfl
  have one1 : ∀ v, (some (1 : Int)) = some v → 1 ≤ v ∧ v < 2 ^ 40 := fun v hv => by
    cases hv
    exact ⟨(by decide : (1 : Int) ≤ 1), (by decide : (1 : Int) < 2 ^ 40)⟩
  by_cases c1 : i = 11
  · subst c1
    obtain ⟨r, e, b, n⟩ := line_ok h1 h2 l1 l2
    refine ⟨r, ?_, b, fun _ => n, fun h => absurd h (by decide), fun h => absurd h (by decide)⟩
    have nd : isDict (opt r) = false := by cases r <;> rfl
    simp [G_index_of_part, fFn, m_index_of_part, fSeq, fIfS, fTst, fB2, fVar, fC, f_hd hi, f_line hi, fUs, pure1, fCons, fNil, e, fRet, nd, fnOut]
  · by_cases c2 : 12 ≤ i
    · obtain ⟨p, p1, p2⟩ := f_pr hi (by omega) c1
      obtain ⟨k, k1, k2, k3⟩ := f_kx hi c2
      obtain ⟨x, x1, x2, x3⟩ := expin_ok (most := k) p2 h12 (by omega) (by omega)
      obtain ⟨y, y1, y2, y3⟩ := expin_ok (most := k) p2 h1 (by omega) (by omega)
      obtain ⟨v, v1, v2, v3⟩ := raised_small (e := x - y) p2 (by omega) (by omega)
      refine ⟨some v, ?_, fun w hw => by cases hw; exact ⟨v2, v3⟩, fun h => by omega, fun _ => rfl, fun h => by omega⟩
      simp [G_index_of_part, fFn, m_index_of_part, fSeq, fIfS, fTst, fB2, fVar, fC, f_hd hi, f_line hi, f_ring hi, c1, c2, fUs, pure1, fCons, fNil, p1, k1, x1, y1, sub, v1, fNx, fRet, isDict, fnOut, opt]
    · by_cases c3 : 6 ≤ i ∧ i ≤ 10
      · obtain ⟨p, p1, p2⟩ := f_pr hi (by omega) c1
        cases z1 : mz one with
        | true =>
          rw [z1] at a1 a2
          obtain ⟨x, x1, x2, x3⟩ := tors_ok p2 h1 (by omega) z1
          obtain ⟨y, y1, y2, y3⟩ := tors_ok p2 h12 l12 (by rw [mz_app, z1]; rfl)
          obtain ⟨v, v1, v2, v3⟩ := raised_small (e := x - y) p2 (by omega) (by omega)
          refine ⟨some v, ?_, fun w hw => by cases hw; exact ⟨v2, v3⟩, fun h => by simp, fun h => absurd h c2, fun h => by omega⟩
          simp [G_index_of_part, fFn, m_index_of_part, fSeq, fIfS, fTst, fNot, fB2, fVar, fC, f_hd hi, f_line hi, f_ring hi, f_deep hi, c1, c2, c3, fUs, pure1, fCons, fNil, fIf, a1, a2, p1, x1, y1, sub, v1, fNx, fRet, isDict, fnOut, opt]
        | false =>
          rw [z1] at a1 a2
          cases z2 : mz other with
          | true =>
            rw [z2] at a2
            refine ⟨none, ?_, fun v hv => (nomatch hv), fun h => rfl, fun h => absurd h c2, fun h => by omega⟩
            simp [G_index_of_part, fFn, m_index_of_part, fSeq, fIfS, fTst, fNot, fB2, fVar, fC, f_hd hi, f_line hi, f_ring hi, f_deep hi, c1, c2, c3, fUs, pure1, fCons, fNil, fIf, a1, a2, fNx, fRet, isDict, fnOut, opt]
          | false =>
            rw [z2] at a2
            refine ⟨some 1, ?_, one1, fun h => rfl, fun h => absurd h c2, fun h => by omega⟩
            simp [G_index_of_part, fFn, m_index_of_part, fSeq, fIfS, fTst, fNot, fB2, fVar, fC, f_hd hi, f_line hi, f_ring hi, f_deep hi, c1, c2, c3, fUs, pure1, fCons, fNil, fIf, a1, a2, fNx, fRet, isDict, fnOut, opt]
      · cases z1 : mz one with
        | true =>
          rw [z1] at a1 a2
          refine ⟨some 1, ?_, one1, fun h => by simp, fun h => absurd h c2, fun h => .inr rfl⟩
          simp [G_index_of_part, fFn, m_index_of_part, fSeq, fIfS, fTst, fNot, fB2, fVar, fC, f_hd hi, f_line hi, f_ring hi, f_deep hi, c1, c2, c3, fUs, pure1, fCons, fNil, fIf, a1, a2, fNx, fRet, isDict, fnOut, opt]
        | false =>
          rw [z1] at a1 a2
          cases z2 : mz other with
          | true =>
            rw [z2] at a2
            refine ⟨none, ?_, fun v hv => (nomatch hv), fun h => rfl, fun h => absurd h c2, fun h => .inl rfl⟩
            simp [G_index_of_part, fFn, m_index_of_part, fSeq, fIfS, fTst, fNot, fB2, fVar, fC, f_hd hi, f_line hi, f_ring hi, f_deep hi, c1, c2, c3, fUs, pure1, fCons, fNil, fIf, a1, a2, fNx, fRet, isDict, fnOut, opt]
          | false =>
            rw [z2] at a2
            by_cases c4 : i = 0
            · subst c4
              refine ⟨some 1, ?_, one1, fun h => rfl, fun h => absurd h c2, fun h => .inr rfl⟩
              simp [G_index_of_part, fFn, m_index_of_part, fSeq, fIfS, fTst, fNot, fB2, fVar, fC, f_hd hi, f_line hi, f_ring hi, f_deep hi, f_allh hi, fUs, pure1, fCons, fNil, fIf, a1, a2, fNx, fRet, isDict, fnOut, opt]
            · obtain ⟨p, p1, p2⟩ := f_pr hi c4 c1
              obtain ⟨k, k1, k2, k3⟩ := great_ok p2 h12 l12
              obtain ⟨x, x1, x2, x3⟩ := expin_ok (most := k) p2 h12 (by omega) (by omega)
              obtain ⟨y, y1, y2, y3⟩ := expin_ok (most := k) p2 h1 (by omega) (by omega)
              obtain ⟨v, v1, v2, v3⟩ := raised_small (e := x - y) p2 (by omega) (by omega)
              refine ⟨some v, ?_, fun w hw => by cases hw; exact ⟨v2, v3⟩, fun h => rfl, fun h => absurd h c2, fun h => absurd h c4⟩
              simp [G_index_of_part, fFn, m_index_of_part, fSeq, fSet, fIfS, fTst, fNot, fB2, fVar, fC, f_hd hi, f_line hi, f_ring hi, f_deep hi, f_allh hi, c1, c2, c3, c4, fUs, pure1, fCons, fNil, fIf, a1, a2, p1, k1, x1, y1, sub, v1, fNx, fRet, isDict, fnOut, opt]
end Law
/-! Whole numbers from 0 on, None, and repr of any data. -/
namespace DL
open PySem PySem.Spec PyProof.Rows L2 GX
theorem char_ok (c : Char) : c.toNat < 0x110000 := by
  have h := c.valid
  rcases h with h | h
  · have : c.val.toNat < 0xd800 := h
    show c.val.toNat < _
    omega
  · exact h.2
theorem strOk_nat (m : Nat) : PyData.strOk (Str.ofString (toString ((m : Nat) : Int))) = true := by
  unfold PyData.strOk
  rw [← Array.all_toList, PySem.W.KIN.signs_num, List.all_map, List.all_eq_true]
  intro c _
  exact decide_eq_true (char_ok c)
theorem nice_nat {v : Int} (h0 : 0 ≤ v) (h : v.natAbs < 2 ^ 1900) : Nice 1921 (.int v) := by
  have hl : v.natAbs.log2 < 1920 := by
    by_cases e : v.natAbs = 0
    · rw [e]; decide
    · exact (Nat.log2_lt e).mpr (Nat.lt_trans h (Nat.pow_lt_pow_right (by decide) (by decide)))
  refine { sh := ?_, can := rfl, dep := Nat.zero_le _, txt := ?_ }
  · rw [PyData.showable]; exact decide_eq_true hl
  · rw [PyData.shown]
    refine ⟨?_, int_text_len_1921 hl⟩
    obtain ⟨m, rfl⟩ := Int.eq_ofNat_of_zero_le h0
    exact strOk_nat m
theorem nice_none : Nice 1921 .none := (nice_of (n := 4) (by decide +kernel)).mono (by decide)
theorem Nice.reprA {n : Nat} {d : D} (h : Nice n d) (hn : n ≤ sizeLine) (hs : isDict d = false) : dReprA [d] = some (.str d.shown) := by
  show (if isDict d = false ∧ reprOk d = true then some (PyData.str d.shown) else none) = _
  rw [if_pos ⟨hs, h.ok hn⟩]
end DL
namespace Law
open PySem PySem.Spec PyProof.Rows L2 GX DL Ord
/-! products of indexes -/
def mulO : Option Int → Option Int → Option Int
  | some a, some b => some (a * b)
  | _, _ => none
theorem mulO_none {a : Option Int} : mulO none a = none := rfl
theorem mulO_none2 {a : Option Int} : mulO a none = none := by cases a <;> rfl
theorem mulO_comm (a b : Option Int) : mulO a b = mulO b a := by
  cases a <;> cases b <;> try rfl
  exact congrArg some (Int.mul_comm _ _)
theorem mulO_assoc (a b c : Option Int) : mulO (mulO a b) c = mulO a (mulO b c) := by
  cases a <;> cases b <;> cases c <;> try rfl
  exact congrArg some (Int.mul_assoc _ _ _)
theorem mulO_one (a : Option Int) : mulO a (some 1) = a := by
  cases a
  · rfl
  · exact congrArg some (Int.mul_one _)
theorem one_mulO (a : Option Int) : mulO (some 1) a = a := by rw [mulO_comm, mulO_one]
theorem mulO_swap (a b c d : Option Int) : mulO (mulO a b) (mulO c d) = mulO (mulO a c) (mulO b d) := by
  rw [mulO_assoc, ← mulO_assoc b c d, mulO_comm b c, mulO_assoc c b d, ← mulO_assoc]
abbrev Lt := List (Int × Int)
def IPv (i : Nat) (one other : Lt) : Option Int := match G_index_of_part [P i, lotD one, lotD (one ++ other)] with
  | some (.int v) => some v
  | _ => none
theorem IP_ok {i : Nat} {one other : Lt} (hi : i < 32) (h1 : OkL one) (h2 : OkL other) (l1 : one.length ≤ 2) (l2 : other.length ≤ 2) :
    G_index_of_part [P i, lotD one, lotD (one ++ other)] = some (opt (IPv i one other)) ∧ (∀ v, IPv i one other = some v → 1 ≤ v ∧ v < 2 ^ 40) ∧ (i < 12 → (IPv i one other).isNone = (mz other && !mz one)) ∧ (12 ≤ i → (IPv i one other).isNone = false) ∧ (i = 0 → IPv i one other = none ∨ IPv i one other = some 1) := by
  obtain ⟨r, e, q⟩ := ip_ok hi h1 h2 l1 l2
  have : IPv i one other = r := by
    unfold IPv
    rw [e]
    cases r <;> rfl
  rw [this]
  exact ⟨e, q⟩
/-- what so many of a part bring -/
def con (one other : Lt) (x : Nat × Int) : Option Int := match IPv x.1 one other with
  | none => none
  | some v => if v > 1 then (if x.2 = -1 then none else some (v ^ x.2.toNat)) else some 1
def idx (one other : Lt) (f : Gr) : Option Int := (its f).foldl (fun a x => mulO a (con one other x)) (some 1)
theorem fold_none (one other : Lt) : ∀ l : List (Nat × Int), l.foldl (fun a x => mulO a (con one other x)) none = none
  | [] => rfl
  | _ :: l => fold_none one other l
def OkN (n : Int) (f : Gr) : Prop := ∀ i m, i < 32 → f i = some m → m = -1 ∨ (1 ≤ m ∧ m ≤ n)
theorem OkN.ok {n : Int} {f : Gr} (h : OkN n f) (hn : n ≤ 64) : OkF f := fun i m hi e => (h i m hi e).imp id fun z => ⟨z.1, by omega⟩
theorem pow_bits {v : Int} {b k : Nat} (hv : v.natAbs < 2 ^ b) : (v ^ k).natAbs < 2 ^ (b * k + 1) := by
  rw [Int.natAbs_pow]
  have h1 : v.natAbs ^ k ≤ (2 ^ b) ^ k := Nat.pow_le_pow_left (Nat.le_of_lt hv) k
  rw [← Nat.pow_mul] at h1
  rw [Nat.pow_succ]
  have := Nat.pow_pos (n := b * k) (show 0 < 2 by decide)
  omega
theorem mul_bits {a b : Int} {m n : Nat} (ha : a.natAbs < 2 ^ m) (hb : b.natAbs < 2 ^ n) : (a * b).natAbs < 2 ^ (m + n) := by
  rw [Int.natAbs_mul, Nat.pow_add]
  exact Nat.mul_lt_mul'' ha hb
theorem bits_mono {a : Int} {m n : Nat} (h : a.natAbs < 2 ^ m) (hn : m ≤ n) : a.natAbs < 2 ^ n := Nat.lt_of_lt_of_le h (Nat.pow_le_pow_right (by decide) hn)
theorem con_bits {one other : Lt} (h1 : OkL one) (h2 : OkL other) (l1 : one.length ≤ 2) (l2 : other.length ≤ 2) {i : Nat} {m v : Int} (hi : i < 32) {n : Nat} (hm : m = -1 ∨ (1 ≤ m ∧ m ≤ n)) (e : con one other (i, m) = some v) : 1 ≤ v ∧ v.natAbs < 2 ^ (40 * n + 1) := by
  obtain ⟨_, hb, _⟩ := IP_ok hi h1 h2 l1 l2
  unfold con at e
  cases hv : IPv i one other with
  | none => rw [hv] at e; cases e
  | some w =>
    rw [hv] at e
    obtain ⟨b1, b2⟩ := hb w hv
    dsimp only at e
    split at e
    · split at e
      · cases e
      · cases e
        refine ⟨?_, ?_⟩
        · have : 0 < w ^ m.toNat := Int.pow_pos (show 0 < w by omega)
          omega
        · have hmn : m.toNat ≤ n := by omega
          exact bits_mono (pow_bits (b := 40) (by omega)) (by omega)
    · cases e
      exact ⟨by omega, Nat.one_lt_two_pow (by omega)⟩
def xB : FS := (fSeq (fSet 6 (fUs (pure1 G_index_of_part) (fCons (fVar 4) (fCons (fVar 1) (fCons (fB2 dAdd (fVar 1) (fVar 2)) (fNil)))))) (fSeq (fIfS (fOr (fTst (fB2 dIsN (fVar 6) (fC .none))) (fAnd (fTst (fB2 dGt (fVar 6) (fC (.int 1)))) (fTst (fB2 dEq (fVar 5) (fC c_EVER))))) (fRet (fC .none)) (fNx)) (fSet 3 (fB2 dMulI (fVar 3) (fUs (pure1 G_raised) (fCons (fVar 6) (fCons (fIf (fTst (fB2 dGt (fVar 6) (fC (.int 1)))) (fVar 5) (fC (.int 0))) (fNil))))))))
theorem add_lots {one other : Lt} (l1 : one.length ≤ 2) (l2 : other.length ≤ 2) : dAdd (lotD one) (lotD other) = some (lotD (one ++ other)) := by
  show (if (one.map rowD).length + (other.map rowD).length ≤ sizeLine then some (PyData.tuple (one.map rowD ++ other.map rowD)) else none) = _
  rw [List.length_map, List.length_map, if_pos (Nat.le_trans (show one.length + other.length ≤ 4 by omega) (by decide)), ← List.map_append]
  rfl
section
variable {one other : Lt} (h1 : OkL one) (h2 : OkL other) (l1 : one.length ≤ 2) (l2 : other.length ≤ 2)
include h1 h2 l1 l2
theorem idx_loop {g : D} {s : Src} : ∀ (l : List (Nat × Int)) (q : Int) (n : Nat) (a b c : Option D), (∀ x ∈ l, x.1 < 32 ∧ (x.2 = -1 ∨ (1 ≤ x.2 ∧ x.2 ≤ 8))) → 1 ≤ q → q.natAbs < 2 ^ n → 1 ≤ n → n + 321 * l.length ≤ 20000 →
    ∃ ρ' fl, fLoop (sTup (sCons (sName 4) (sCons (sName 5) (sNil)))) xB (l.map it) [some g, some (lotD one), some (lotD other), some (.int q), a, b, c] s = some (fl, ρ', s) ∧
      (match l.foldl (fun a x => mulO a (con one other x)) (some q) with
        | some r => fl = .nx ∧ ∃ a b c, ρ' = [some g, some (lotD one), some (lotD other), some (.int r), a, b, c]
        | none => fl = .rt .none)
  | [], q, n, a, b, c, _, _, _, _, _ => ⟨_, .nx, rfl, rfl, a, b, c, rfl⟩
  | (i, m) :: l, q, n, a, b, c, hl, hq, hb, hn, hN => by
    obtain ⟨hi, hm⟩ := hl (i, m) List.mem_cons_self
    obtain ⟨e1, e2, _⟩ := IP_ok hi h1 h2 l1 l2
    have ad := add_lots l1 l2
    have ec : c_EVER = .int (-1) := rfl
    have isn : dIsN .none .none = some (.bool true) := rfl
    have isn2 : ∀ v : Int, dIsN (.int v) .none = some (.bool false) := fun _ => rfl
    have gt1 : ∀ v : Int, dGt (.int v) (.int 1) = some (.bool (decide (1 < v))) := fun _ => rfl
    have eqm : ∀ v : Int, dEq (.int v) (.int (-1)) = some (.bool (v == -1)) := fun _ => rfl
    rw [List.map_cons, List.foldl_cons]
    have st : sTup (sCons (sName 4) (sCons (sName 5) (sNil))) (it (i, m)) [some g, some (lotD one), some (lotD other), some (.int q), a, b, c] = some [some g, some (lotD one), some (lotD other), some (.int q), some (P i), some (.int m), c] := rfl
    unfold fLoop
    rw [st, Option.bind_some]
    cases hv : IPv i one other with
    | none =>
      rw [hv] at e1
      have e1 : G_index_of_part [P i, lotD one, lotD (one ++ other)] = some .none := e1
      have hc : con one other (i, m) = none := by unfold con; rw [hv]
      rw [hc, mulO_none2, fold_none]
      have eb : xB [some g, some (lotD one), some (lotD other), some (.int q), some (P i), some (.int m), c] s = some (.rt .none, [some g, some (lotD one), some (lotD other), some (.int q), some (P i), some (.int m), some .none], s) := by
        simp [xB, fSeq, fSet, fUs, pure1, fCons, fNil, fVar, fB2, fC, ad, e1, fIfS, fOr, fTst, isn, fRet, isDict]
      rw [eb]
      exact ⟨_, _, rfl, rfl⟩
    | some v =>
      rw [hv] at e1
      have e1 : G_index_of_part [P i, lotD one, lotD (one ++ other)] = some (.int v) := e1
      obtain ⟨v1, v2⟩ := e2 v hv
      by_cases hv1 : 1 < v
      · by_cases hm1 : m = -1
        · have hc : con one other (i, m) = none := by unfold con; rw [hv]; dsimp only; rw [if_pos hv1, if_pos hm1]
          rw [hc, mulO_none2, fold_none]
          have eb : xB [some g, some (lotD one), some (lotD other), some (.int q), some (P i), some (.int m), c] s = some (.rt .none, [some g, some (lotD one), some (lotD other), some (.int q), some (P i), some (.int m), some (.int v)], s) := by
            simp [xB, fSeq, fSet, fUs, pure1, fCons, fNil, fVar, fB2, fC, ad, e1, fIfS, fOr, fAnd, fTst, isn2, gt1, hv1, ec, eqm, hm1, fRet, isDict]
          rw [eb]
          exact ⟨_, _, rfl, rfl⟩
        · have hc : con one other (i, m) = some (v ^ m.toNat) := by unfold con; rw [hv]; dsimp only; rw [if_pos hv1, if_neg hm1]
          obtain ⟨c1, c2⟩ := con_bits h1 h2 l1 l2 (n := 8) hi hm hc
          have rs := raised_ok (p := v) (k := m) 40 v1 (by omega) (by decide) (by omega) (by omega) (by decide)
          have hml : 321 * ((i, m) :: l).length = 321 + 321 * l.length := by rw [List.length_cons]; omega
          have mu := dMul_ok (i := q) (j := v ^ m.toNat) n (40 * 8 + 1) hb c2 (by omega) (by decide) (by omega)
          have eb : xB [some g, some (lotD one), some (lotD other), some (.int q), some (P i), some (.int m), c] s = some (.nx, [some g, some (lotD one), some (lotD other), some (.int (q * v ^ m.toNat)), some (P i), some (.int m), some (.int v)], s) := by
            have hm2 : (m == -1) = false := beq_false_of_ne hm1
            simp [xB, fSeq, fSet, fUs, pure1, fCons, fNil, fVar, fB2, fC, ad, e1, fIfS, fOr, fAnd, fTst, isn2, gt1, hv1, ec, eqm, hm2, fNx, fIf, rs, mu]
          rw [eb, Option.bind_some, hc]
          have hq2 : 1 ≤ q * v ^ m.toNat := by
            have := Int.mul_le_mul hq c1 (by omega) (by omega)
            omega
          exact idx_loop l _ (n + (40 * 8 + 1)) _ _ _ (fun x hx => hl x (List.mem_cons_of_mem _ hx)) hq2 (mul_bits hb c2) (by omega) (by omega)
      · have hvv : v = 1 := by omega
        subst hvv
        have hc : con one other (i, m) = some 1 := by unfold con; rw [hv]; dsimp only; rw [if_neg (by decide)]
        have rs := raised_ok (p := 1) (k := 0) 40 (by decide) (by decide) (by decide) (by decide) (by decide) (by decide)
        have rs : G_raised [.int 1, .int 0] = some (.int 1) := rs
        have mu := dMul_ok (i := q) (j := 1) n 2 hb (by decide) (by omega) (by decide) (by omega)
        rw [Int.mul_one] at mu
        have eb : xB [some g, some (lotD one), some (lotD other), some (.int q), some (P i), some (.int m), c] s = some (.nx, [some g, some (lotD one), some (lotD other), some (.int q), some (P i), some (.int m), some (.int 1)], s) := by
          simp [xB, fSeq, fSet, fUs, pure1, fCons, fNil, fVar, fB2, fC, ad, e1, fIfS, fOr, fAnd, fTst, isn2, gt1, ec, eqm, fNx, fIf, rs, mu]
        rw [eb, Option.bind_some, hc, mulO_one]
        have hml : 321 * ((i, m) :: l).length = 321 + 321 * l.length := by rw [List.length_cons]; omega
        exact idx_loop l _ n _ _ _ (fun x hx => hl x (List.mem_cons_of_mem _ hx)) hq hb hn (by omega)
theorem index_of_ok {f : Gr} (hf : OkN 8 f) : G_index_of [gD f, lotD one, lotD other] = some (opt (idx one other f)) := by
  have hit : DL.itemsD (gD f) = some ((its f).map it) := rfl
  have hlen := its_len f
  obtain ⟨ρ', fl, e, h⟩ := idx_loop h1 h2 l1 l2 (g := gD f) (s := (0, 0, 0)) (its f) 1 2 none none none (fun x hx => by
    obtain ⟨i, m⟩ := x
    obtain ⟨a, b⟩ := mem_its.mp hx
    exact ⟨a, hf i m a b⟩) (by decide) (by decide) (by decide) (by omega)
  rw [xB] at e
  simp only [G_index_of, fFn, m_index_of, fSeq, fSet, fFor, fSeqI, fC, fCons, fNil, fVar, hit, Bool.false_eq_true, if_false, List.nil_append, List.map_cons (f := some), List.map_nil, List.cons_append, List.length_cons, List.length_nil, List.replicate, List.getD_cons_zero, List.getD_cons_succ, Option.map_some, Option.bind_some, List.set_cons_succ, List.set_cons_zero, e]
  unfold idx
  cases hx : (its f).foldl (fun a x => mulO a (con one other x)) (some 1) with
  | none =>
    rw [hx] at h
    have h : fl = .rt .none := h
    subst h
    simp [fnOut, opt]
  | some r =>
    rw [hx] at h
    obtain ⟨h, a, b, c, hρ⟩ := h
    subst h hρ
    simp [fRet, fVar, isDict, fnOut, opt]
theorem index_ok {f : Gr} (hf : OkN 8 f) : G_index_in [gD f, lotD one, lotD other] = some (opt (idx one other f)) := by
  have c1 := check_ok (hf.ok (by decide))
  have c2 := check_lot_ok h1
  have c3 := check_lot_ok h2
  have key := index_of_ok h1 h2 l1 l2 hf
  have nd : isDict (opt (idx one other f)) = false := by cases idx one other f <;> rfl
  simp [G_index_in, fFn, m_index_in, fSeq, fDrop, fUs, pure1, fCons, fNil, fVar, fC, c1, c2, c3, key, fRet, nd, fnOut]
end
end Law
namespace Law
open PySem PySem.Spec PyProof.Rows L2 GX DL Ord
/-! one part alone -/
def sgl (i : Nat) (m : Int) : Gr := fun j => if j = i then some m else none
theorem its_sgl {i : Nat} (hi : i < 32) (m : Int) : its (sgl i m) = [(i, m)] := by
  refine List.perm_singleton.mp (RpL.perm (l := [(i, m)]) { lt := fun x hx => ?_, nd := by simp, iff := fun j n => ?_ })
  · rw [List.mem_singleton.mp hx]; exact hi
  · rw [List.mem_singleton]
    unfold sgl
    constructor
    · intro e
      cases e
      exact ⟨hi, if_pos rfl⟩
    · rintro ⟨_, e⟩
      split at e
      · rename_i q
        cases e
        rw [q]
      · cases e
theorem gD_sgl {i : Nat} (hi : i < 32) (m : Int) : gD (sgl i m) = .tuple [.tuple [P i, .int m]] := by
  unfold gD
  rw [its_sgl hi]
  rfl
theorem idx_sgl {one other : Lt} {i : Nat} (hi : i < 32) (m : Int) : idx one other (sgl i m) = con one other (i, m) := by
  unfold idx
  rw [its_sgl hi, List.foldl_cons, List.foldl_nil, one_mulO]
theorem ok_sgl {i : Nat} {m n : Int} (h : m = -1 ∨ (1 ≤ m ∧ m ≤ n)) : OkN n (sgl i m) := fun j k hj e => by
  unfold sgl at e
  split at e
  · cases e; exact h
  · cases e
theorem con_one {one other : Lt} {i : Nat} (hi : i < 32) (h1 : OkL one) (h2 : OkL other) (l1 : one.length ≤ 2) (l2 : other.length ≤ 2) : con one other (i, 1) = IPv i one other := by
  obtain ⟨_, hb, _⟩ := IP_ok hi h1 h2 l1 l2
  unfold con
  cases hv : IPv i one other with
  | none => rfl
  | some v =>
    have := hb v hv
    dsimp only
    split
    · rw [if_neg (by decide)]
      show some (v ^ 1) = _
      rw [Int.pow_succ, Int.pow_zero, Int.one_mul]
    · exact congrArg some (by omega)
theorem ints_at {l : List Int} {v : Int} (h0 : 0 ≤ v) (h : v < l.length) : ∃ d, dIx (.list (l.map PyData.int)) (.int v) = some (.int d) ∧ d ∈ l := by
  obtain ⟨n, rfl⟩ := Int.eq_ofNat_of_zero_le h0
  have hn : n < l.length := by omega
  refine ⟨l[n], ?_, List.getElem_mem hn⟩
  show atI _ _ = _
  unfold atI ixN
  rw [if_pos (Int.natCast_nonneg n), List.length_map, if_pos (by omega), Option.bind_some, Int.toNat_natCast, List.getElem?_map, List.getElem?_eq_getElem hn]
  rfl
end Law
namespace Law
open PySem PySem.Spec PyProof.Rows L2 GX DL Ord
/-! what exponent_in tells -/
def fW (p most : Int) (r : Int × Int) : Int := (if 0 < r.1 then (if exV p r.1 < most then exV p r.1 else most) else most) - exV p r.2
def fE (p most : Int) (f : Int) (r : Int × Int) : Int := if r.2 = 0 then f else if fW p most r > f then fW p most r else f
theorem expin_val {p most : Int} {l : List (Int × Int)} (hp : p ∈ prs) (h : OkL l) (h0 : 0 ≤ most) (h1 : most ≤ 4) : G_exponent_in [.int p, lotD l, .int most] = some (.int (l.foldl (fE p most) 0)) := by
  have hit : DL.itemsD (lotD l) = some (l.map rowD) := rfl
  have hmin : ∀ i j : Int, dMin2 [.int i, .int j] = some (.int (if j < i then j else i)) := fun _ _ => rfl
  have hmax : ∀ i j : Int, dMax2 [.int i, .int j] = some (.int (if j > i then j else i)) := fun _ _ => rfl
  have hsub : ∀ i j : Int, dSub (.int i) (.int j) = some (.int (i - j)) := fun _ _ => rfl
  obtain ⟨ρ1, s1, e1, hs, a, b, c, hρ⟩ := fLoop_ok (set := sTup (sCons (sName 4) (sCons (sTup (sCons (sName 5) (sNil))) (sNil)))) (body := eB)
    (I := fun k ρ s => s = (0, 0, 0) ∧ ∃ a b c, ρ = [some (.int p), some (lotD l), some (.int most), some (.int ((l.take k).foldl (fE p most) 0)), a, b, c])
    (l.map rowD) 0 [some (.int p), some (lotD l), some (.int most), some (.int 0), none, none, none] (0, 0, 0) ⟨rfl, none, none, none, rfl⟩ (fun k d ρ s hk ⟨hs, a, b, c, hρ⟩ => by
      rw [List.getElem?_map] at hk
      cases hx : l[k]? with
      | none => rw [hx] at hk; cases hk
      | some r =>
        rw [hx] at hk
        cases hk
        have tk : l.take (k + 1) = l.take k ++ [r] := by rw [List.take_add_one, hx]; rfl
        rw [Nat.zero_add] at hρ ⊢
        rw [tk, List.foldl_append, List.foldl_cons, List.foldl_nil]
        generalize (l.take k).foldl (fE p most) 0 = f at hρ ⊢
        subst hs hρ
        have hr := h r (List.mem_of_getElem? hx)
        by_cases ha : r.2 = 0
        · refine ⟨[some (.int p), some (lotD l), some (.int most), some (.int f), some (.int r.1), some (.int r.2), c], .nx, [some (.int p), some (lotD l), some (.int most), some (.int f), some (.int r.1), some (.int r.2), c], (0, 0, 0), rfl, ?_, .inl rfl, rfl, some (.int r.1), some (.int r.2), c, by unfold fE; rw [if_pos ha]⟩
          simp [eB, fIfS, fTst, fB2, fVar, fC, ne0, ha, fNx]
        · obtain ⟨x, x1, x2, x3⟩ := ex_a hp hr ha
          have x4 := exV_of x1
          by_cases hd : 0 < r.1
          · obtain ⟨y, y1, y2, y3⟩ := ex_d hp hr hd
            have y4 := exV_of y1
            refine ⟨[some (.int p), some (lotD l), some (.int most), some (.int f), some (.int r.1), some (.int r.2), c], .nx, [some (.int p), some (lotD l), some (.int most), some (.int (if (if y < most then y else most) - x > f then (if y < most then y else most) - x else f)), some (.int r.1), some (.int r.2), some (.int (if y < most then y else most))], (0, 0, 0), rfl, ?_, .inl rfl, rfl, _, _, _, by unfold fE fW; rw [if_neg ha, if_pos hd, x4, y4]⟩
            simp [eB, fIfS, fTst, fB2, fVar, fC, ne0, ha, fSeq, fSet, fIf, gt0, hd, fCall, fCons, fNil, fUs, pure1, x1, y1, hmin, hmax, hsub]
          · refine ⟨[some (.int p), some (lotD l), some (.int most), some (.int f), some (.int r.1), some (.int r.2), c], .nx, [some (.int p), some (lotD l), some (.int most), some (.int (if most - x > f then most - x else f)), some (.int r.1), some (.int r.2), some (.int most)], (0, 0, 0), rfl, ?_, .inl rfl, rfl, _, _, _, by unfold fE fW; rw [if_neg ha, if_neg hd, x4]⟩
            simp [eB, fIfS, fTst, fB2, fVar, fC, ne0, ha, fSeq, fSet, fIf, gt0, hd, fCall, fCons, fNil, fUs, pure1, x1, hmax, hsub])
  subst hs hρ
  rw [eB] at e1
  rw [List.length_map, Nat.zero_add, List.take_length] at e1
  simp only [G_exponent_in, fFn, m_exponent_in, fSeq, fSet, fFor, fSeqI, fC, fCons, fNil, fVar, hit, Bool.false_eq_true, if_false, List.nil_append, List.map_cons, List.map_nil, List.cons_append, List.length_cons, List.length_nil, List.replicate, List.getD_cons_zero, List.getD_cons_succ, Option.map_some, Option.bind_some, List.set_cons_succ, List.set_cons_zero, e1]
  simp [fRet, fVar, isDict, fnOut]
def Ei (p k : Int) (l : Lt) : Int := l.foldl (fE p k) 0
theorem expin_E {p most : Int} {l : List (Int × Int)} (hp : p ∈ prs) (h : OkL l) (h0 : 0 ≤ most) (h1 : most ≤ 4) : G_exponent_in [.int p, lotD l, .int most] = some (.int (Ei p most l)) := expin_val hp h h0 h1
theorem fE_bnd {p k f : Int} {r : Int × Int} (hp : p ∈ prs) (hr : okRow r) (h0 : 0 ≤ f) (h1 : f ≤ k) : f ≤ fE p k f r ∧ fE p k f r ≤ k := by
  unfold fE
  by_cases ha : r.2 = 0
  · rw [if_pos ha]; omega
  · obtain ⟨x, x1, x2, x3⟩ := ex_a hp hr ha
    rw [if_neg ha]
    have hw : fW p k r ≤ k := by
      unfold fW
      rw [exV_of x1]
      split
      · split <;> omega
      · omega
    split <;> omega
theorem Ei_from {p k : Int} (hp : p ∈ prs) : ∀ (l : Lt) (f : Int), OkL l → 0 ≤ f → f ≤ k → f ≤ l.foldl (fE p k) f ∧ l.foldl (fE p k) f ≤ k
  | [], f, _, h0, h1 => ⟨Int.le_refl _, h1⟩
  | r :: l, f, h, h0, h1 => by
    obtain ⟨a, b⟩ := fE_bnd hp (h r List.mem_cons_self) h0 h1
    obtain ⟨c, d⟩ := Ei_from hp l (fE p k f r) (fun x hx => h x (List.mem_cons_of_mem _ hx)) (by omega) b
    rw [List.foldl_cons]
    exact ⟨by omega, d⟩
theorem Ei_bnd {p k : Int} {l : Lt} (hp : p ∈ prs) (h : OkL l) (h0 : 0 ≤ k) : 0 ≤ Ei p k l ∧ Ei p k l ≤ k := Ei_from hp l 0 h (by omega) h0
def zl : Lt := [(0, 1)]
theorem ok_zl : OkL zl := fun r hr => by
  rw [List.mem_singleton.mp hr]
  exact ⟨by decide, by decide, by decide⟩
theorem ok_nil : OkL [] := fun _ h => (nomatch h)
theorem exV1 {p : Int} (hp : p ∈ prs) : exV p 1 = 0 := by
  have h : (prs.all fun p => exV p 1 == 0) = true := by decide +kernel
  exact beq_iff_eq.mp (List.all_eq_true.mp h p hp)
theorem Ei_zero {p k : Int} {l : Lt} (hp : p ∈ prs) (h : OkL l) (h0 : 0 ≤ k) : Ei p k (l ++ zl) = k := by
  obtain ⟨a, b⟩ := Ei_bnd hp h h0
  unfold Ei at a b
  show (l ++ [(0, 1)]).foldl (fE p k) 0 = k
  rw [List.foldl_append, List.foldl_cons, List.foldl_nil]
  generalize l.foldl (fE p k) 0 = e at *
  have w : fW p k (0, 1) = k := by
    unfold fW
    rw [if_neg (by decide), exV1 hp, Int.sub_zero]
  unfold fE
  rw [if_neg (by decide), w]
  split <;> omega
/-- torsion_in, greatest_exponent -/
def Ti (p : Int) (l : Lt) : Int := match G_torsion_in [.int p, lotD l] with
  | some (.int e) => e
  | _ => 0
def Gi (p : Int) (l : Lt) : Int := match G_greatest_exponent [.int p, lotD l] with
  | some (.int e) => e
  | _ => 0
theorem Ti_ok {p : Int} {l : Lt} (hp : p ∈ prs) (h : OkL l) (hl : l.length ≤ 1000) (hz : mz l = true) : G_torsion_in [.int p, lotD l] = some (.int (Ti p l)) ∧ (0 ≤ Ti p l ∧ Ti p l ≤ 4) ∧ ∀ x ∈ l, x.1 = 0 → x.2 ≠ 0 → Ti p l ≤ exV p x.2 := by
  obtain ⟨e, e1, e2, e3⟩ := tors_ok hp h hl hz
  have : Ti p l = e := by unfold Ti; rw [e1]
  rw [this]
  exact ⟨e1, e2, e3.2⟩
theorem Ti_mem {p : Int} {l : Lt} (hp : p ∈ prs) (h : OkL l) (hl : l.length ≤ 1000) (hz : mz l = true) : ∃ x ∈ l, x.1 = 0 ∧ x.2 ≠ 0 ∧ Ti p l = exV p x.2 := by
  obtain ⟨e, e1, e2, e3⟩ := tors_ok hp h hl hz
  have : Ti p l = e := by unfold Ti; rw [e1]
  rw [this]
  exact e3.1
theorem Gi_ge {p : Int} {l : Lt} (hp : p ∈ prs) (h : OkL l) (hl : l.length ≤ 1000) : ∀ x ∈ l, 0 < x.1 → exV p x.1 ≤ Gi p l := by
  obtain ⟨e, e1, e2, e3⟩ := great_ok hp h hl
  have : Gi p l = e := by unfold Gi; rw [e1]
  rw [this]
  exact e3
theorem Gi_ok {p : Int} {l : Lt} (hp : p ∈ prs) (h : OkL l) (hl : l.length ≤ 1000) : G_greatest_exponent [.int p, lotD l] = some (.int (Gi p l)) ∧ 0 ≤ Gi p l ∧ Gi p l ≤ 4 := by
  obtain ⟨e, e1, e2⟩ := great_ok hp h hl
  have : Gi p l = e := by unfold Gi; rw [e1]
  rw [this]
  exact ⟨e1, e2.1⟩
theorem Ti_zero {p : Int} {l : Lt} (hp : p ∈ prs) (h : OkL l) (hl : l.length ≤ 900) : Ti p (l ++ zl) = 0 := by
  obtain ⟨_, a, b⟩ := Ti_ok hp (h.app ok_zl) (by rw [List.length_append]; show _ + 1 ≤ 1000; omega) (by rw [mz_app]; exact Bool.or_true _)
  have := b (0, 1) (List.mem_append_right _ List.mem_cons_self) rfl (by decide)
  have e := exV1 hp
  have e : exV p (0, (1 : Int)).2 = 0 := e
  omega
/-! the index, exactly -/
def prI (i : Nat) : Int := match dIx (P i) (.int 1) with
  | some (.int p) => p
  | _ => 0
def exI (i : Nat) : Int := match dIx (P i) (.int 2) with
  | some (.int k) => k
  | _ => 0
theorem prI_ok {i : Nat} (hi : i < 32) (h0 : i ≠ 0) (h1 : i ≠ 11) : dIx (P i) (.int 1) = some (.int (prI i)) ∧ prI i ∈ prs := by
  obtain ⟨p, p1, p2⟩ := f_pr hi h0 h1
  have : prI i = p := by unfold prI; rw [p1]
  rw [this]
  exact ⟨p1, p2⟩
theorem exI_ok {i : Nat} (hi : i < 32) (h0 : 12 ≤ i) : dIx (P i) (.int 2) = some (.int (exI i)) ∧ 1 ≤ exI i ∧ exI i ≤ 4 := by
  obtain ⟨k, p1, p2⟩ := f_kx hi h0
  have : exI i = k := by unfold exI; rw [p1]
  rw [this]
  exact ⟨p1, p2⟩
def ipX (i : Nat) (one other : Lt) : Option Int :=
  if i = 11 then (if mz one = true then some 1 else if mz other = true then none else some (mlt (one ++ other) / mlt one))
  else if 12 ≤ i then some (prI i ^ (Ei (prI i) (exI i) (one ++ other) - Ei (prI i) (exI i) one).toNat)
  else if 6 ≤ i ∧ i ≤ 10 then (if mz one = true then some (prI i ^ (Ti (prI i) one - Ti (prI i) (one ++ other)).toNat) else if mz other = true then none else some 1)
  else if mz one = true then some 1 else if mz other = true then none else if i = 0 then some 1
  else some (prI i ^ (Ei (prI i) (Gi (prI i) (one ++ other)) (one ++ other) - Ei (prI i) (Gi (prI i) (one ++ other)) one).toNat)
theorem raised_val {p e : Int} (hp : p ∈ prs) (h0 : -10 ≤ e) (h1 : e ≤ 10) : G_raised [.int p, .int e] = some (.int (p ^ e.toNat)) := by
  have := prs_small hp
  exact raised_ok 4 (by omega) (by omega) (by decide) (by omega) (by omega) (by decide)
theorem line_val {one other : Lt} (h1 : OkL one) (h2 : OkL other) (l1 : one.length ≤ 2) (l2 : other.length ≤ 2) :
    G_index_of_line [lotD one, lotD (one ++ other)] = some (opt (if mz one = true then some 1 else if mz other = true then none else some (mlt (one ++ other) / mlt one))) := by
  have e1 := mult_ok h1 (by omega)
  have e2 := mult_ok (h1.app h2) (by rw [List.length_append]; omega)
  have hz := mz_app one other
  cases z1 : mz one with
  | true =>
    have m1 : mlt one = 0 := by unfold mlt; rw [z1, if_pos rfl]
    have c : dEq (.int (mlt one)) (.int 0) = some (.bool true) := by rw [eq0, m1]; rfl
    simp [G_index_of_line, fFn, m_index_of_line, fSeq, fPar, setAll, fUs, pure1, fCons, fNil, fVar, e1, e2, fIfS, fTst, fB2, fC, c, fRet, isDict, fnOut, opt]
  | false =>
    obtain ⟨a1, a2⟩ := mlt_pos h1 (by omega) z1
    have c : dEq (.int (mlt one)) (.int 0) = some (.bool false) := by
      rw [eq0, beq_false_of_ne (by omega)]
    rw [z1] at hz
    cases z2 : mz other with
    | true =>
      rw [z2] at hz
      have m2 : mlt (one ++ other) = 0 := by unfold mlt; rw [hz]; rfl
      have g : dGt (.int (mlt (one ++ other))) (.int 0) = some (.bool false) := by rw [gt0, m2]; rfl
      simp [G_index_of_line, fFn, m_index_of_line, fSeq, fPar, setAll, fUs, pure1, fCons, fNil, fVar, e1, e2, fIfS, fTst, fB2, fC, c, g, fNx, fIf, fRet, isDict, fnOut, opt]
    | false =>
      rw [z2] at hz
      have hz : mz (one ++ other) = false := hz
      obtain ⟨b1, b2⟩ := mlt_pos (h1.app h2) (by rw [List.length_append]; omega) hz
      have g : dGt (.int (mlt (one ++ other))) (.int 0) = some (.bool true) := by rw [gt0, decide_eq_true (by omega)]
      have dv := dDiv_ok (i := mlt (one ++ other)) (j := mlt one) (by omega) (by omega)
      simp [G_index_of_line, fFn, m_index_of_line, fSeq, fPar, setAll, fUs, pure1, fCons, fNil, fVar, e1, e2, fIfS, fTst, fB2, fC, c, g, dv, fNx, fIf, fRet, isDict, fnOut, opt]
theorem ip_val {i : Nat} {one other : Lt} (hi : i < 32) (h1 : OkL one) (h2 : OkL other) (l1 : one.length ≤ 2) (l2 : other.length ≤ 2) :
    G_index_of_part [P i, lotD one, lotD (one ++ other)] = some (opt (ipX i one other)) := by
  have h12 := h1.app h2
  have l12 : (one ++ other).length ≤ 1000 := by rw [List.length_append]; omega
  have a1 := mz_ok one
  have a2 := mz_ok (one ++ other)
  rw [mz_app] at a2
  have sub : ∀ i j : Int, dSub (.int i) (.int j) = some (.int (i - j)) := fun _ _ => rfl
  unfold ipX
  by_cases c1 : i = 11
  · subst c1
    rw [if_pos rfl]
    have e := line_val h1 h2 l1 l2
    generalize (if mz one = true then some (1 : Int) else if mz other = true then none else some (mlt (one ++ other) / mlt one)) = r at *
    have nd : isDict (opt r) = false := by cases r <;> rfl
    simp [G_index_of_part, fFn, m_index_of_part, fSeq, fIfS, fTst, fB2, fVar, fC, f_hd hi, f_line hi, fUs, pure1, fCons, fNil, e, fRet, nd, fnOut]
  · rw [if_neg c1]
    by_cases c2 : 12 ≤ i
    · rw [if_pos c2]
      obtain ⟨p1, p2⟩ := prI_ok hi (by omega) c1
      obtain ⟨k1, k2, k3⟩ := exI_ok hi c2
      have x1 := expin_E (most := exI i) p2 h12 (by omega) (by omega)
      have y1 := expin_E (most := exI i) p2 h1 (by omega) (by omega)
      obtain ⟨x2, x3⟩ := Ei_bnd (k := exI i) p2 h12 (by omega)
      obtain ⟨y2, y3⟩ := Ei_bnd (k := exI i) p2 h1 (by omega)
      have v1 := raised_val (e := Ei (prI i) (exI i) (one ++ other) - Ei (prI i) (exI i) one) p2 (by omega) (by omega)
      simp [G_index_of_part, fFn, m_index_of_part, fSeq, fIfS, fTst, fB2, fVar, fC, f_hd hi, f_line hi, f_ring hi, c1, c2, fUs, pure1, fCons, fNil, p1, k1, x1, y1, sub, v1, fNx, fRet, isDict, fnOut, opt]
    · rw [if_neg c2]
      by_cases c3 : 6 ≤ i ∧ i ≤ 10
      · rw [if_pos c3]
        obtain ⟨p1, p2⟩ := prI_ok hi (by omega) c1
        cases z1 : mz one with
        | true =>
          rw [z1] at a1 a2
          rw [if_pos rfl]
          obtain ⟨x1, x2, _⟩ := Ti_ok p2 h1 (by omega) z1
          obtain ⟨y1, y2, _⟩ := Ti_ok p2 h12 l12 (by rw [mz_app, z1]; rfl)
          have v1 := raised_val (e := Ti (prI i) one - Ti (prI i) (one ++ other)) p2 (by omega) (by omega)
          simp [G_index_of_part, fFn, m_index_of_part, fSeq, fIfS, fTst, fNot, fB2, fVar, fC, f_hd hi, f_line hi, f_ring hi, f_deep hi, c1, c2, c3, fUs, pure1, fCons, fNil, fIf, a1, a2, p1, x1, y1, sub, v1, fNx, fRet, isDict, fnOut, opt]
        | false =>
          rw [z1] at a1 a2
          rw [if_neg Bool.false_ne_true]
          cases z2 : mz other with
          | true =>
            rw [z2] at a2
            simp [G_index_of_part, fFn, m_index_of_part, fSeq, fIfS, fTst, fNot, fB2, fVar, fC, f_hd hi, f_line hi, f_ring hi, f_deep hi, c1, c2, c3, fUs, pure1, fCons, fNil, fIf, a1, a2, fNx, fRet, isDict, fnOut, opt]
          | false =>
            rw [z2] at a2
            simp [G_index_of_part, fFn, m_index_of_part, fSeq, fIfS, fTst, fNot, fB2, fVar, fC, f_hd hi, f_line hi, f_ring hi, f_deep hi, c1, c2, c3, fUs, pure1, fCons, fNil, fIf, a1, a2, fNx, fRet, isDict, fnOut, opt]
      · rw [if_neg c3]
        cases z1 : mz one with
        | true =>
          rw [z1] at a1 a2
          rw [if_pos rfl]
          simp [G_index_of_part, fFn, m_index_of_part, fSeq, fIfS, fTst, fNot, fB2, fVar, fC, f_hd hi, f_line hi, f_ring hi, f_deep hi, c1, c2, c3, fUs, pure1, fCons, fNil, fIf, a1, a2, fNx, fRet, isDict, fnOut, opt]
        | false =>
          rw [z1] at a1 a2
          rw [if_neg Bool.false_ne_true]
          cases z2 : mz other with
          | true =>
            rw [z2] at a2
            rw [if_pos rfl]
            simp [G_index_of_part, fFn, m_index_of_part, fSeq, fIfS, fTst, fNot, fB2, fVar, fC, f_hd hi, f_line hi, f_ring hi, f_deep hi, c1, c2, c3, fUs, pure1, fCons, fNil, fIf, a1, a2, fNx, fRet, isDict, fnOut, opt]
          | false =>
            rw [z2] at a2
            rw [if_neg Bool.false_ne_true]
            by_cases c4 : i = 0
            · subst c4
              simp [G_index_of_part, fFn, m_index_of_part, fSeq, fIfS, fTst, fNot, fB2, fVar, fC, f_hd hi, f_line hi, f_ring hi, f_deep hi, f_allh hi, fUs, pure1, fCons, fNil, fIf, a1, a2, fNx, fRet, isDict, fnOut, opt]
            · rw [if_neg c4]
              obtain ⟨p1, p2⟩ := prI_ok hi c4 c1
              obtain ⟨k1, k2, k3⟩ := Gi_ok p2 h12 l12
              have x1 := expin_E (most := Gi (prI i) (one ++ other)) p2 h12 (by omega) (by omega)
              have y1 := expin_E (most := Gi (prI i) (one ++ other)) p2 h1 (by omega) (by omega)
              obtain ⟨x2, x3⟩ := Ei_bnd (k := Gi (prI i) (one ++ other)) p2 h12 (by omega)
              obtain ⟨y2, y3⟩ := Ei_bnd (k := Gi (prI i) (one ++ other)) p2 h1 (by omega)
              have v1 := raised_val (e := Ei (prI i) (Gi (prI i) (one ++ other)) (one ++ other) - Ei (prI i) (Gi (prI i) (one ++ other)) one) p2 (by omega) (by omega)
              simp [G_index_of_part, fFn, m_index_of_part, fSeq, fSet, fIfS, fTst, fNot, fB2, fVar, fC, f_hd hi, f_line hi, f_ring hi, f_deep hi, f_allh hi, c1, c2, c3, c4, fUs, pure1, fCons, fNil, fIf, a1, a2, p1, k1, x1, y1, sub, v1, fNx, fRet, isDict, fnOut, opt]
theorem ipv {i : Nat} {one other : Lt} (hi : i < 32) (h1 : OkL one) (h2 : OkL other) (l1 : one.length ≤ 2) (l2 : other.length ≤ 2) : IPv i one other = ipX i one other := by
  unfold IPv
  rw [ip_val hi h1 h2 l1 l2]
  cases ipX i one other <;> rfl
end Law
namespace Law
open PySem PySem.Spec PyProof.Rows L2 GX DL Ord
/-! multiples of lots, and what divides them -/
def OkR (l : Lt) : Prop := ∀ r ∈ l, okRow r ∧ r.2 ≠ 0
def Pos (l : Lt) : Prop := ∀ r ∈ l, 0 < r.1
theorem OkR.ok {l : Lt} (h : OkR l) : OkL l := fun r hr => (h r hr).1
theorem OkR.app {l m : Lt} (h : OkR l) (k : OkR m) : OkR (l ++ m) := fun r hr => (List.mem_append.mp hr).elim (h r) (k r)
theorem Pos.app {l m : Lt} (h : Pos l) (k : Pos m) : Pos (l ++ m) := fun r hr => (List.mem_append.mp hr).elim (h r) (k r)
theorem row_dvd {r : Int × Int} (h : 0 < r.1) (x : Int) : r.1 ∣ r.2 * x ↔ ownR r ∣ x := by
  have hg : 0 < Nat.gcd r.1.natAbs r.2.natAbs := Nat.gcd_pos_of_pos_left _ (by omega)
  have e : ownR r = ((r.1.natAbs / Nat.gcd r.1.natAbs r.2.natAbs : Nat) : Int) := by
    unfold ownR gcdI
    rw [if_pos h, Int.natCast_ediv]
    congr 1
    omega
  rw [e, ← Int.natAbs_dvd_natAbs, ← Int.natAbs_dvd_natAbs, Int.natAbs_mul, Int.natAbs_natCast]
  generalize r.1.natAbs = D at *
  generalize r.2.natAbs = A at *
  generalize x.natAbs = X at *
  have hc := Nat.coprime_div_gcd_div_gcd hg
  obtain ⟨d', hd⟩ := Nat.gcd_dvd_left D A
  obtain ⟨a', ha⟩ := Nat.gcd_dvd_right D A
  have e1 : D / Nat.gcd D A = d' := by
    conv => lhs; arg 1; rw [hd]
    exact Nat.mul_div_cancel_left _ hg
  have e2 : A / Nat.gcd D A = a' := by
    conv => lhs; arg 1; rw [ha]
    exact Nat.mul_div_cancel_left _ hg
  rw [e1, e2] at hc
  rw [e1]
  generalize Nat.gcd D A = g at *
  subst hd ha
  constructor
  · intro q
    rw [Nat.mul_assoc] at q
    exact hc.dvd_of_dvd_mul_left (Nat.dvd_of_mul_dvd_mul_left hg q)
  · intro q
    rw [Nat.mul_assoc]
    exact Nat.mul_dvd_mul_left g (Nat.dvd_trans q (Nat.dvd_mul_left _ _))
theorem mod_dvd {a b : Int} : (a % b == 0) = decide (b ∣ a) := by
  by_cases h : b ∣ a
  · rw [decide_eq_true h, Int.emod_eq_zero_of_dvd h]; rfl
  · rw [decide_eq_false h]
    exact beq_false_of_ne fun z => h (Int.dvd_of_emod_eq_zero z)
theorem lcm_dvd {f o x : Int} (hf : 1 ≤ f) (ho : 1 ≤ o) : f * o / gcdI f o ∣ x ↔ f ∣ x ∧ o ∣ x := by
  have e : f * o / gcdI f o = ((Nat.lcm f.natAbs o.natAbs : Nat) : Int) := by
    unfold gcdI Nat.lcm
    rw [Int.natCast_ediv, Int.natCast_mul]
    congr 1
    congr 1 <;> omega
  rw [e, ← Int.natAbs_dvd_natAbs, Int.natAbs_natCast, ← Int.natAbs_dvd_natAbs, ← Int.natAbs_dvd_natAbs]
  exact ⟨fun q => ⟨Nat.dvd_trans (Nat.dvd_lcm_left _ _) q, Nat.dvd_trans (Nat.dvd_lcm_right _ _) q⟩, fun q => Nat.lcm_dvd q.1 q.2⟩
theorem fold_dvd (x : Int) : ∀ (l : Lt) (f : Int), OkL l → 1 ≤ f → (l.foldl mstep f ∣ x ↔ f ∣ x ∧ ∀ r ∈ l, ownR r ∣ x)
  | [], f, _, _ => ⟨fun q => ⟨q, fun _ h => (nomatch h)⟩, fun q => q.1⟩
  | r :: l, f, h, hf => by
    have hr := h r List.mem_cons_self
    have a := (mstep_ok hr hf).1
    rw [List.foldl_cons, fold_dvd x l (mstep f r) (fun y hy => h y (List.mem_cons_of_mem _ hy)) (by omega)]
    unfold mstep
    rw [lcm_dvd hf (own_ok2 hr).1]
    constructor
    · rintro ⟨⟨q1, q2⟩, q3⟩
      exact ⟨q1, fun y hy => (List.mem_cons.mp hy).elim (fun e => e ▸ q2) (q3 y)⟩
    · rintro ⟨q1, q2⟩
      exact ⟨⟨q1, q2 r List.mem_cons_self⟩, fun y hy => q2 y (List.mem_cons_of_mem _ hy)⟩
theorem mz_pos {l : Lt} (h : Pos l) : mz l = false := by
  unfold mz
  rw [List.any_eq_false]
  intro r hr
  have := h r hr
  rw [beq_false_of_ne (by omega)]
  simp
theorem mlt_fold {l : Lt} (h : Pos l) : mlt l = l.foldl mstep 1 := by
  unfold mlt
  rw [mz_pos h, if_neg Bool.false_ne_true]
/-- a multiple divides just what all rows divide -/
theorem mlt_dvd {l : Lt} (h : OkL l) (hp : Pos l) (x : Int) : (l.all fun r => (r.2 * x) % r.1 == 0) = decide (mlt l ∣ x) := by
  have e : (∀ r ∈ l, ownR r ∣ x) ↔ mlt l ∣ x := by
    rw [mlt_fold hp, fold_dvd x l 1 h (by decide)]
    exact ⟨fun q => ⟨Int.one_dvd x, q⟩, fun q => q.2⟩
  by_cases hx : mlt l ∣ x
  · rw [decide_eq_true hx, List.all_eq_true]
    intro r hr
    rw [mod_dvd]
    exact decide_eq_true ((row_dvd (hp r hr) x).mpr (e.mpr hx r hr))
  · rw [decide_eq_false hx]
    cases q : l.all fun r => (r.2 * x) % r.1 == 0 with
    | false => rfl
    | true =>
      exfalso
      refine hx (e.mp fun r hr => (row_dvd (hp r hr) x).mp ?_)
      have := List.all_eq_true.mp q r hr
      rw [mod_dvd] at this
      exact of_decide_eq_true this
/-! the multiples that occur, and their exponents -/
def OW : List Int := [1, 2, 3, 4, 5, 6, 8, 9, 10, 12, 16]
def MS : List Int := [1, 2, 3, 4, 5, 6, 8, 9, 10, 12, 15, 16, 18, 20, 24] ++ [30, 36, 40, 45, 48, 60, 72, 80, 90, 120, 144, 180, 240, 360, 720]
def prs3 : List Int := [2, 3, 5]
theorem prs3_mem {p : Int} (h : p ∈ prs3) : p ∈ prs := List.all_eq_true.mp (show (prs3.all fun p => decide (p ∈ prs)) = true by decide) p h |> of_decide_eq_true
def mxI (a b : Int) : Int := if b > a then b else a
def vS (p e : Int) (r : Int × Int) : Int := mxI e (exV p r.1 - exV p r.2)
theorem ow_all : (dvals.all fun d => (List.range 33).all fun n => OW.contains (ownR (d, (n : Int) - 16)) && (d == 0 || (n == 16 || prs3.all fun p => exV p (ownR (d, (n : Int) - 16)) == mxI 0 (exV p d - exV p ((n : Int) - 16))))) = true := by decide +kernel
theorem ow_ok {r : Int × Int} (h : okRow r) : ownR r ∈ OW := by
  obtain ⟨h1, h2, h3⟩ := h
  have q := List.all_eq_true.mp (List.all_eq_true.mp ow_all r.1 h1) (r.2 + 16).toNat (List.mem_range.mpr (by omega))
  rw [show (((r.2 + 16).toNat : Nat) : Int) - 16 = r.2 by omega, Bool.and_eq_true] at q
  exact List.contains_iff_mem.mp q.1
theorem ow_ex {r : Int × Int} (h : okRow r) (h0 : 0 < r.1) (ha : r.2 ≠ 0) {p : Int} (hp : p ∈ prs3) : exV p (ownR r) = mxI 0 (exV p r.1 - exV p r.2) := by
  obtain ⟨h1, h2, h3⟩ := h
  have q := List.all_eq_true.mp (List.all_eq_true.mp ow_all r.1 h1) (r.2 + 16).toNat (List.mem_range.mpr (by omega))
  rw [show (((r.2 + 16).toNat : Nat) : Int) - 16 = r.2 by omega, Bool.and_eq_true, beq_false_of_ne (show r.1 ≠ 0 by omega), Bool.false_or, beq_false_of_ne (show (r.2 + 16).toNat ≠ 16 by omega), Bool.false_or] at q
  exact beq_iff_eq.mp (List.all_eq_true.mp q.2 p hp)
theorem ms_all : (MS.all fun f => OW.all fun u => MS.contains (f * u / gcdI f u) && prs3.all fun p => exV p (f * u / gcdI f u) == mxI (exV p f) (exV p u)) = true := by decide +kernel
theorem ex0 : (MS.all fun f => prs3.all fun p => decide (0 ≤ exV p f ∧ exV p f ≤ 4)) = true := by decide +kernel
theorem ms_fold {p : Int} (hp : p ∈ prs3) : ∀ (l : Lt) (f : Int), OkR l → Pos l → f ∈ MS → l.foldl mstep f ∈ MS ∧ exV p (l.foldl mstep f) = l.foldl (vS p) (exV p f)
  | [], f, _, _, hf => ⟨hf, rfl⟩
  | r :: l, f, h, hq, hf => by
    obtain ⟨h1, h2⟩ := h r List.mem_cons_self
    have h0 := hq r List.mem_cons_self
    have a := List.all_eq_true.mp (List.all_eq_true.mp ms_all f hf) (ownR r) (ow_ok h1)
    rw [Bool.and_eq_true] at a
    have m : mstep f r ∈ MS := List.contains_iff_mem.mp a.1
    have e : exV p (mstep f r) = mxI (exV p f) (exV p (ownR r)) := beq_iff_eq.mp (List.all_eq_true.mp a.2 p hp)
    obtain ⟨b, c⟩ := ms_fold hp l (mstep f r) (fun y hy => h y (List.mem_cons_of_mem _ hy)) (fun y hy => hq y (List.mem_cons_of_mem _ hy)) m
    have q := of_decide_eq_true (List.all_eq_true.mp (List.all_eq_true.mp ex0 f hf) p hp)
    have e2 : exV p (mstep f r) = vS p (exV p f) r := by
      rw [e, ow_ex h1 h0 h2 hp]
      unfold vS mxI
      (repeat' split) <;> omega
    rw [List.foldl_cons, List.foldl_cons, ← e2]
    exact ⟨b, c⟩
theorem mlt_ms {l : Lt} (h : OkR l) (hq : Pos l) : mlt l ∈ MS ∧ ∀ p ∈ prs3, exV p (mlt l) = l.foldl (vS p) 0 := by
  rw [mlt_fold hq]
  refine ⟨(ms_fold (p := 2) (by decide) l 1 h hq (by decide)).1, fun p hp => ?_⟩
  have e := (ms_fold hp l 1 h hq (by decide)).2
  have e1 : exV p 1 = 0 := exV1 (prs3_mem hp)
  rw [e1] at e
  exact e
theorem ms_bnd {M : Int} (h : M ∈ MS) : 1 ≤ M ∧ M ≤ 720 := of_decide_eq_true (List.all_eq_true.mp (show (MS.all fun M => decide (1 ≤ M ∧ M ≤ 720)) = true by decide) M h)
/-! exponent_in where all exponents of d are at most the bound -/
theorem Ei_vS {p g : Int} : ∀ (l : Lt) (e : Int), OkR l → Pos l → 0 ≤ e → (∀ r ∈ l, exV p r.1 ≤ g) → l.foldl (fE p g) e = l.foldl (vS p) e
  | [], _, _, _, _, _ => rfl
  | r :: l, e, h, hq, he, hg => by
    have h2 := (h r List.mem_cons_self).2
    have h0 := hq r List.mem_cons_self
    have g1 := hg r List.mem_cons_self
    have a : fE p g e r = vS p e r := by
      have w : fW p g r = exV p r.1 - exV p r.2 := by
        unfold fW
        rw [if_pos h0]
        split <;> omega
      unfold fE vS mxI
      rw [if_neg h2, w]
    have b : 0 ≤ vS p e r := by
      unfold vS mxI
      split <;> omega
    rw [List.foldl_cons, List.foldl_cons, a]
    exact Ei_vS l _ (fun y hy => h y (List.mem_cons_of_mem _ hy)) (fun y hy => hq y (List.mem_cons_of_mem _ hy)) b fun y hy => hg y (List.mem_cons_of_mem _ hy)
theorem vS_mono (p : Int) : ∀ (l : Lt) (e : Int), e ≤ l.foldl (vS p) e
  | [], e => Int.le_refl _
  | r :: l, e => by
    have := vS_mono p l (vS p e r)
    have b : e ≤ vS p e r := by
      unfold vS mxI
      split <;> omega
    rw [List.foldl_cons]
    omega
/-! powers in a number -/
def pwB (p n : Int) : Bool := n == 0 || (match G__law_power_in [.int p, .int n] with
  | some (.int v) => v == p ^ (exV p n).toNat && decide (0 ≤ exV p n ∧ exV p n ≤ 4)
  | _ => false)
theorem pw_all : (prs3.all fun p => MS.all (pwB p) && (List.range 33).all fun n => pwB p ((n : Int) - 16)) = true := by decide +kernel
theorem pwB_ok {p n : Int} (h : pwB p n = true) (h0 : n ≠ 0) : G__law_power_in [.int p, .int n] = some (.int (p ^ (exV p n).toNat)) ∧ 0 ≤ exV p n ∧ exV p n ≤ 4 := by
  unfold pwB at h
  rw [beq_false_of_ne h0, Bool.false_or] at h
  split at h
  · rename_i v e
    rw [Bool.and_eq_true, beq_iff_eq, decide_eq_true_eq] at h
    exact ⟨by rw [e, h.1], h.2⟩
  · cases h
theorem pw_ms {p M : Int} (hp : p ∈ prs3) (h : M ∈ MS) : G__law_power_in [.int p, .int M] = some (.int (p ^ (exV p M).toNat)) ∧ 0 ≤ exV p M ∧ exV p M ≤ 4 := by
  have q := List.all_eq_true.mp pw_all p hp
  rw [Bool.and_eq_true] at q
  exact pwB_ok (List.all_eq_true.mp q.1 M h) (by have := ms_bnd h; omega)
theorem pw_a {p a : Int} (hp : p ∈ prs3) (h1 : -16 ≤ a) (h2 : a ≤ 16) (h0 : a ≠ 0) : G__law_power_in [.int p, .int a] = some (.int (p ^ (exV p a).toNat)) ∧ 0 ≤ exV p a ∧ exV p a ≤ 4 := by
  have q := List.all_eq_true.mp pw_all p hp
  rw [Bool.and_eq_true] at q
  have := List.all_eq_true.mp q.2 (a + 16).toNat (List.mem_range.mpr (by omega))
  rw [show (((a + 16).toNat : Nat) : Int) - 16 = a by omega] at this
  exact pwB_ok this h0
/-- p^b // p^a -/
theorem pow_div {p a b : Int} (hp : p ∈ prs3) (h0 : 0 ≤ a) (hab : a ≤ b) (hb : b ≤ 4) : dDiv (.int (p ^ b.toNat)) (.int (p ^ a.toNat)) = some (.int (p ^ (b - a).toNat)) := by
  have p0 : 2 ≤ p ∧ p ≤ 5 := of_decide_eq_true (List.all_eq_true.mp (show (prs3.all fun p => decide (2 ≤ p ∧ p ≤ 5)) = true by decide) p hp)
  have pa : 0 < p ^ a.toNat := Int.pow_pos (by omega)
  have bd : (p ^ a.toNat).natAbs < 2 ^ (3 * a.toNat + 1) := pow_bits (by omega)
  have e := dDiv_ok (i := p ^ b.toNat) (j := p ^ a.toNat) pa (bits_mono bd (by omega))
  have q : p ^ b.toNat = p ^ a.toNat * p ^ (b - a).toNat := by
    rw [← Int.pow_add]
    congr 1
    omega
  rw [q, Int.mul_ediv_cancel_left _ (by omega)] at e
  rw [q]
  exact e
end Law
namespace Law
open PySem PySem.Spec PyProof.Rows L2 GX DL Ord
/-! drawn rows; the law's own multiple -/
def dE : FE := fIf (fAnd (fTst (fVar 1)) (fTst (fB2 dEq (fUs H__law_draw (fCons (fC (.int 2)) (fNil))) (fC (.int 0))))) (fC (.int 0)) (fB2 dIx (fLst (fCons (fC (.int 2)) (fCons (fC (.int 3)) (fCons (fC (.int 4)) (fCons (fC (.int 6)) (fCons (fC (.int 8)) (fCons (fC (.int 9)) (fCons (fC (.int 12)) (fCons (fC (.int 16)) (fCons (fC (.int 10)) (fCons (fC (.int 1)) (fNil)))))))))))) (fUs H__law_draw (fCons (fC (.int 10)) (fNil))))
def aE : FE := fIf (fTst (fB2 dGt (fUs H__law_draw (fCons (fC (.int 4)) (fNil))) (fC (.int 0)))) (fB2 dAdd (fC (.int 1)) (fUs H__law_draw (fCons (fC (.int 16)) (fNil)))) (fB2 dSub (fU1 dNeg (fC (.int 1))) (fUs H__law_draw (fCons (fC (.int 6)) (fNil))))
def rwB : FS := fSeq (fSet 4 dE) (fApp 2 (fTup (fCons (fVar 4) (fCons (fTup (fCons aE (fNil))) (fNil)))))
theorem m_rows_eq : m__law_rows = fSeq (fSet 2 (fLst (fNil))) (fSeq (fFor (fRng dRange1 (fCons (fUs H__law_draw (fCons (fC (.int 3)) (fNil))) (fNil))) (sName 3) rwB) (fRet (fCall dTuple (fCons (fVar 2) (fNil))))) := rfl
theorem d_ok {z : Bool} {ρ : DL.Env} {s : Src} {b : Nat} (hs : SOk b s) (hb : b ≤ 200000) (h1 : ρ.getD 1 none = some (.bool z)) : ∃ d s', dE ρ s = some (.int d, s') ∧ d ∈ dvals ∧ (z = false → 0 < d) ∧ SOk (b + 2) s' := by
  have lst : ∀ {s : Src} {b : Nat}, SOk b s → b ≤ 200001 → ∃ d s', (fB2 dIx (fLst (fCons (fC (.int 2)) (fCons (fC (.int 3)) (fCons (fC (.int 4)) (fCons (fC (.int 6)) (fCons (fC (.int 8)) (fCons (fC (.int 9)) (fCons (fC (.int 12)) (fCons (fC (.int 16)) (fCons (fC (.int 10)) (fCons (fC (.int 1)) (fNil)))))))))))) (fUs H__law_draw (fCons (fC (.int 10)) (fNil)))) ρ s = some (.int d, s') ∧ d ∈ dvals ∧ 0 < d ∧ SOk (b + 1) s' := fun {s b} hs hb => by
    obtain ⟨v, s1, e, a, c, q⟩ := draw_ok (m := 10) (by decide) (by decide) hs (by omega)
    obtain ⟨d, g, hd⟩ := ints_at (l := [2, 3, 4, 6, 8, 9, 12, 16, 10, 1]) a c
    have g : dIx (.list [.int 2, .int 3, .int 4, .int 6, .int 8, .int 9, .int 12, .int 16, .int 10, .int 1]) (.int v) = some (.int d) := g
    have hd2 := of_decide_eq_true (List.all_eq_true.mp (show (([2, 3, 4, 6, 8, 9, 12, 16, 10, 1] : List Int).all fun d => decide (d ∈ dvals ∧ 0 < d)) = true by decide) d hd)
    refine ⟨d, s1, ?_, hd2.1, hd2.2, q⟩
    simp [fB2, fLst, fCons, fNil, fC, fUs, e, g]
  have hv : fVar 1 ρ s = some (.bool z, s) := by unfold fVar; rw [h1]; rfl
  cases z with
  | false =>
    obtain ⟨d, s', e, a, b', q⟩ := lst hs (by omega)
    refine ⟨d, s', ?_, a, fun _ => b', q.mono (by omega)⟩
    unfold dE fIf fAnd fTst
    simp only [hv, Option.bind_some, Bool.false_eq_true, if_false]
    exact e
  | true =>
    obtain ⟨v, s1, e, a, c, q⟩ := draw_ok (m := 2) (by decide) (by decide) hs (by omega)
    have eq : dEq (.int v) (.int 0) = some (.bool (v == 0)) := rfl
    by_cases h0 : v = 0
    · refine ⟨0, s1, ?_, by decide, fun z => (nomatch z), q.mono (by omega)⟩
      subst h0
      simp [dE, fIf, fAnd, fTst, hv, fB2, fUs, fCons, fNil, fC, e, eq]
    · obtain ⟨d, s', e2, a2, b2, q2⟩ := lst q (by omega)
      refine ⟨d, s', ?_, a2, fun z => (nomatch z), q2.mono (by omega)⟩
      have : dE ρ s = (fB2 dIx (fLst (fCons (fC (.int 2)) (fCons (fC (.int 3)) (fCons (fC (.int 4)) (fCons (fC (.int 6)) (fCons (fC (.int 8)) (fCons (fC (.int 9)) (fCons (fC (.int 12)) (fCons (fC (.int 16)) (fCons (fC (.int 10)) (fCons (fC (.int 1)) (fNil)))))))))))) (fUs H__law_draw (fCons (fC (.int 10)) (fNil)))) ρ s1 := by
        have eb : fB2 dEq (fUs H__law_draw (fCons (fC (.int 2)) (fNil))) (fC (.int 0)) ρ s = some (.bool false, s1) := by
          simp [fB2, fUs, fCons, fNil, fC, e, eq, h0]
        unfold dE fIf fAnd fTst
        simp only [hv, eb, Option.bind_some, Bool.false_eq_true, if_false, if_true]
      rw [this]
      exact e2
theorem a_ok {ρ : DL.Env} {s : Src} {b : Nat} (hs : SOk b s) (hb : b ≤ 200010) : ∃ a s', aE ρ s = some (.int a, s') ∧ -16 ≤ a ∧ a ≤ 16 ∧ a ≠ 0 ∧ SOk (b + 2) s' := by
  obtain ⟨v, s1, e, a, c, q⟩ := draw_ok (m := 4) (by decide) (by decide) hs (by omega)
  have gt : dGt (.int v) (.int 0) = some (.bool (decide (0 < v))) := rfl
  have ng : dNeg (.int 1) = some (.int (-1)) := rfl
  have ad : ∀ i j : Int, dAdd (.int i) (.int j) = some (.int (i + j)) := fun _ _ => rfl
  have sb : ∀ i j : Int, dSub (.int i) (.int j) = some (.int (i - j)) := fun _ _ => rfl
  by_cases h : 0 < v
  · obtain ⟨w, s2, e2, a2, c2, q2⟩ := draw_ok (m := 16) (by decide) (by decide) q (by omega)
    refine ⟨1 + w, s2, ?_, by omega, by omega, by omega, q2⟩
    simp [aE, fIf, fTst, fB2, fUs, fCons, fNil, fC, e, gt, h, e2, ad]
  · obtain ⟨w, s2, e2, a2, c2, q2⟩ := draw_ok (m := 6) (by decide) (by decide) q (by omega)
    refine ⟨-1 - w, s2, ?_, by omega, by omega, by omega, q2⟩
    simp [aE, fIf, fTst, fB2, fU1, fUs, fCons, fNil, fC, e, gt, h, e2, ng, sb]
theorem rows_step {z : Bool} {s : Src} {b : Nat} {l : Lt} (hs : SOk b s) (hb : b ≤ 200000) (hl2 : l.length ≤ 10) (t x4 : Option D) :
    ∃ r s', rwB [none, some (.bool z), some (.list (l.map rowD)), t, x4] s = some (.nx, [none, some (.bool z), some (.list ((l ++ [r]).map rowD)), t, some (.int r.1)], s') ∧ (okRow r ∧ r.2 ≠ 0) ∧ (z = false → 0 < r.1) ∧ SOk (b + 4) s' := by
  obtain ⟨d, s1, e1, h1, h2, q1⟩ := d_ok (ρ := [none, some (.bool z), some (.list (l.map rowD)), t, x4]) hs hb rfl
  obtain ⟨a, s2, e2, h3, h4, h5, q2⟩ := a_ok (ρ := [none, some (.bool z), some (.list (l.map rowD)), t, some (.int d)]) q1 (by omega)
  refine ⟨(d, a), s2, ?_, ⟨⟨h1, h3, h4⟩, h5⟩, h2, q2⟩
  have hlen : l.length < 1000000 := by omega
  simp [rwB, fSeq, fSet, e1, fApp, fTup, fCons, fNil, fVar, e2, hlen, rowD]
theorem rows_drawn {z : Bool} {s : Src} {b : Nat} (hs : SOk b s) (hb : b ≤ 100000) : ∃ l s', H__law_rows [.bool z] s = some (lotD l, s') ∧ OkR l ∧ l.length ≤ 2 ∧ (z = false → Pos l) ∧ SOk (b + 9) s' := by
  obtain ⟨n, s0, e0, a0, b0, q0⟩ := draw_ok (m := 3) (by decide) (by decide) hs (by omega)
  have hn : n.toNat < 3 := by omega
  have hr : dRange1 [.int n] = some (rangeD 0 n.toNat) := by
    show (if -(2 ^ 62) ≤ n ∧ n < 2 ^ 62 then some (rangeD 0 n.toNat) else none) = _
    rw [if_pos ⟨by omega, by omega⟩]
  obtain ⟨ρ1, s1, h1, hs1, l, x3, x4, hρ, hl, hp, hlk⟩ := fLoop_ok (set := sName 3) (body := rwB)
    (I := fun k ρ s => SOk (b + 1 + 4 * min k 2) s ∧ ∃ l x3 x4, ρ = [none, some (.bool z), some (.list (l.map rowD)), x3, x4] ∧ OkR l ∧ (z = false → Pos l) ∧ l.length = k)
    (rangeD 0 n.toNat) 0 [none, some (.bool z), some (.list []), none, none] s0 ⟨q0.mono (by omega), [], none, none, rfl, fun _ h => (nomatch h), fun _ _ h => (nomatch h), rfl⟩ (fun k d ρ s hk ⟨hs, l, x3, x4, hρ, hl, hp, hlk⟩ => by
      have hk7 : k < n.toNat := by
        have := (List.getElem?_eq_some_iff.mp hk).1
        rw [rangeD_length] at this
        exact this
      subst hρ
      obtain ⟨r, s', g1, g2, g3, g4⟩ := rows_step (z := z) hs (by omega) (l := l) (by omega) (some d) x4
      exact ⟨[none, some (.bool z), some (.list (l.map rowD)), some d, x4], .nx, _, s', rfl, g1, .inl rfl, g4.mono (by omega), l ++ [r], _, _, rfl, hl.app (fun x hx => by rw [List.mem_singleton.mp hx]; exact g2), fun z => (hp z).app (fun x hx => by rw [List.mem_singleton.mp hx]; exact g3 z), by rw [List.length_append, hlk]; rfl⟩)
  subst hρ
  refine ⟨l, s1, ?_, hl, by rw [hlk, Nat.zero_add, rangeD_length]; omega, hp, hs1.mono (by omega)⟩
  simp only [H__law_rows, fFn, m_rows_eq, fSeq, fFor, fRng, fUs, fSet, fLst, fC, fCons, fNil, e0, hr, if_true, List.nil_append, List.map_nil, List.map_cons (f := some), List.append_nil, List.cons_append, List.length_nil, List.length_cons, List.replicate, List.getD_cons_zero, List.getD_cons_succ, Option.map_some, Option.bind_some, List.set_cons_succ, List.set_cons_zero, Nat.zero_le, h1]
  simp only [fRet, fCall, fCons, fNil, fVar, List.getD_cons_zero, List.getD_cons_succ, Option.map_some, Option.bind_some, dTuple, isDict, fnOut]
  rfl
/-! the least number of which all rows make multiples -/
theorem bools_map {α : Type} (f : α → Bool) : ∀ l : List α, boolsD (l.map fun x => PyData.bool (f x)) = some (l.map f)
  | [] => rfl
  | x :: l => by rw [List.map_cons, boolsD, bools_map f l]; rfl
def mulB : FS := fIfS (fTst (fCall dAllL (fCons (fLc (fSeqI (fVar 0)) (sTup (sCons (sName 2) (sCons (sName 3) (sNil)))) (fYes) (fB2 dEq (fB2 dMod (fB2 dMulI (fB2 dIx (fVar 3) (fC (.int 0))) (fVar 1)) (fVar 2)) (fC (.int 0))) [2, 3]) (fNil)))) (fRet (fVar 1)) (fNx)
theorem m_mul_eq : m__law_multiple = fSeq (fFor (fRng dRange2 (fCons (fC (.int 1)) (fCons (fC (.int 20000)) (fNil)))) (sName 1) mulB) (fRet (fC .none)) := rfl
theorem mul_body {l : Lt} (h : OkL l) (hp : Pos l) (hl : l.length ≤ 4) {n : Int} (n1 : 1 ≤ n) (n2 : n ≤ 20000) (s : Src) (a b : Option D) : mulB [some (lotD l), some (.int n), a, b] s = some (if mlt l ∣ n then .rt (.int n) else .nx, [some (lotD l), some (.int n), a, b], s) := by
  have hit : DL.itemsD (lotD l) = some (l.map rowD) := rfl
  have hlen : (l.map rowD).length ≤ 1000000 := by rw [List.length_map]; omega
  have hlc : lcLoop (sTup (sCons (sName 2) (sCons (sName 3) (sNil)))) (fYes) (fB2 dEq (fB2 dMod (fB2 dMulI (fB2 dIx (fVar 3) (fC (.int 0))) (fVar 1)) (fVar 2)) (fC (.int 0))) [some (lotD l), some (.int n), none, none] (l.map rowD) s = some (l.map fun r => PyData.bool ((r.2 * n) % r.1 == 0), s) := by
    rw [lc_map rowD (fun _ => true) (fun r => PyData.bool ((r.2 * n) % r.1 == 0)) l]
    · rw [List.filter_eq_self.mpr fun _ _ => rfl]
    · intro r hr
      refine ⟨[some (lotD l), some (.int n), some (.int r.1), some (.tuple [.int r.2])], rfl, rfl, fun _ => ?_⟩
      obtain ⟨h1, h2, h3⟩ := h r hr
      have x0 : dIx (.tuple [.int r.2]) (.int 0) = some (.int r.2) := rfl
      have mu := dMul_ok (i := r.2) (j := n) 20 20 (by omega) (by omega) (by decide) (by decide) (by decide)
      have mo := dMod_ok (i := r.2 * n) (j := r.1) (hp r hr)
      have eq : ∀ v : Int, dEq (.int v) (.int 0) = some (.bool (v == 0)) := fun _ => rfl
      simp [fB2, fVar, fC, x0, mu, mo, eq]
  have al : dAllL [.list (l.map fun r => PyData.bool ((r.2 * n) % r.1 == 0))] = some (.bool (decide (mlt l ∣ n))) := by
    show (boolsD _).map _ = _
    rw [bools_map, Option.map_some, List.all_map, ← mlt_dvd h hp n]
    rfl
  have w : wipeE [some (lotD l), some (PyData.int n), a, b] [2, 3] = [some (lotD l), some (.int n), none, none] := rfl
  by_cases hd : mlt l ∣ n
  · rw [decide_eq_true hd] at al
    rw [if_pos hd]
    simp only [mulB, fIfS, fTst, fCall, fCons, fNil, fLc, fSeqI, fVar, List.getD_cons_zero, List.getD_cons_succ, Option.map_some, Option.bind_some, hit, hlen, if_true, w, hlc, al, fRet, isDict]
    rfl
  · rw [decide_eq_false hd] at al
    rw [if_neg hd]
    simp only [mulB, fIfS, fTst, fCall, fCons, fNil, fLc, fSeqI, fVar, List.getD_cons_zero, List.getD_cons_succ, Option.map_some, Option.bind_some, hit, hlen, if_true, w, hlc, al, Bool.false_eq_true, if_false, fNx]
theorem mul_loop {l : Lt} (h : OkL l) (hp : Pos l) (hl : l.length ≤ 4) (s : Src) (a b : Option D) : ∀ (k n : Nat) (lo : Int) (x : Option D), 1 ≤ lo → lo + n ≤ 20001 → k < n → mlt l = lo + k → (∀ j : Nat, j < k → ¬ mlt l ∣ lo + j) →
    ∃ ρ', fLoop (sName 1) mulB (rangeD lo n) [some (lotD l), x, a, b] s = some (.rt (.int (mlt l)), ρ', s)
  | k, 0, _, _, _, _, hk, _, _ => by omega
  | k, n + 1, lo, x, h1, h2, hk, hm, hj => by
    have st : sName 1 (.int lo) [some (lotD l), x, a, b] = some [some (lotD l), some (.int lo), a, b] := rfl
    have eb := mul_body h hp hl (n := lo) h1 (by omega) s a b
    unfold rangeD fLoop
    rw [st, Option.bind_some, eb, Option.bind_some]
    cases k with
    | zero =>
      have e : mlt l = lo := by omega
      rw [if_pos (by rw [e]; exact Int.dvd_refl lo)]
      exact ⟨_, by rw [e]⟩
    | succ k =>
      have nd : ¬ mlt l ∣ lo := by
        have := hj 0 (by omega)
        rw [show lo + ((0 : Nat) : Int) = lo by omega] at this
        exact this
      rw [if_neg nd]
      exact mul_loop h hp hl s a b k n (lo + 1) _ (by omega) (by omega) (by omega) (by omega) fun j hjk => by
        have := hj (j + 1) (by omega)
        rw [show lo + ((j + 1 : Nat) : Int) = lo + 1 + (j : Int) by omega] at this
        exact this
theorem mul_ok {l : Lt} (h : OkR l) (hp : Pos l) (hl : l.length ≤ 4) : G__law_multiple [lotD l] = some (.int (mlt l)) := by
  have hb := ms_bnd (mlt_ms h hp).1
  have rg : dRange2 [.int 1, .int 20000] = some (rangeD 1 19999) := by
    show (if (-(2 ^ 62) ≤ (1 : Int) ∧ (1 : Int) < 2 ^ 62) ∧ -(2 ^ 62) ≤ (20000 : Int) ∧ (20000 : Int) < 2 ^ 62 then some (rangeD 1 ((20000 : Int) - 1).toNat) else none) = _
    rw [if_pos (by decide)]
    rfl
  obtain ⟨ρ', e⟩ := mul_loop h.ok hp hl (0, 0, 0) none none (mlt l - 1).toNat 19999 1 none (by decide) (by decide) (by omega) (by omega) fun j hj hd => by
    have := Int.le_of_dvd (by omega) hd
    omega
  generalize rangeD 1 19999 = rs at *
  simp only [G__law_multiple, fFn, m_mul_eq, fSeq, fFor, fRng, fC, fCons, fNil, rg, Bool.false_eq_true, if_false, List.nil_append, List.map_cons, List.map_nil, List.cons_append, List.length_cons, List.length_nil, List.replicate, Option.map_some, Option.bind_some, e, fnOut]
end Law
namespace Law
open PySem PySem.Spec PyProof.Rows L2 GX DL Ord
/-! lot_holds, in a line, of one element -/
def PLn : D := .tuple [.str "line"]
def LN : D := .tuple [.tuple [PLn, .int 1]]
def el (x : Int) : D := .tuple [.tuple [.int x]]
def pt (x : Int) : D := .tuple [el x]
theorem ln_hd : dIx PLn (.int 0) = some (.str "line") := rfl
theorem ln_eq : dEq (.str "line") (.str "line") = some (.bool true) := eqB_eq (by decide +kernel)
theorem itT (ds : List D) : DL.itemsD (.tuple ds) = some ds := rfl
theorem itL (ds : List D) : DL.itemsD (.list ds) = some ds := rfl
theorem ln_ring : dEq (.str "line") (.str "ring") = some (.bool false) := eqB_eq (by decide +kernel)
theorem zv_ln : G_zero_value [PLn] = some (.int 0) := by
  have e : dIn (.str "line") (.tuple [.str "line", .str "ring"]) = some (.bool true) := eqB_eq (by decide +kernel)
  simp [G_zero_value, fFn, m_zero_value, fRet, fIf, fTst, fB2, fVar, fC, fTup, fCons, fNil, ln_hd, e, isDict, fnOut]
theorem trim_ln (v : D) : G_trimmed [PLn, .int 1, .list [v]] = some (.tuple [v]) := by
  have e : dEq (.int 1) c_EVER = some (.bool false) := rfl
  have l1 : dList [.list [v]] = some (.list [v]) := rfl
  have t1 : dTuple [.list [v]] = some (.tuple [v]) := rfl
  simp [G_trimmed, fFn, m_trimmed, fSeq, fSet, fCall, fCons, fNil, fVar, l1, fWhile, fWl, fAnd, fTst, fB2, fC, e, fRet, t1, isDict, fnOut]
theorem tv_ln {a x : Int} (ha : a.natAbs < 2 ^ 20) (hx : x.natAbs < 2 ^ 20) : G_times_value [PLn, .int a, .int x] = some (.int (a * x)) := by
  have mu := dMul_ok (i := a) (j := x) 20 20 ha hx (by decide) (by decide) (by decide)
  simp [G_times_value, fFn, m_times_value, fSeq, fIfS, fTst, fB2, fVar, fC, ln_hd, ln_eq, fRet, mu, isDict, fnOut]
theorem pv_ln (u v : Int) : G_plus_value [PLn, .int u, .int v] = some (.int (u + v)) := by
  have ad : dAdd (.int u) (.int v) = some (.int (u + v)) := rfl
  simp [G_plus_value, fFn, m_plus_value, fSeq, fIfS, fTst, fB2, fVar, fC, ln_hd, ln_eq, fRet, ad, isDict, fnOut]
theorem ln_it (v : Int) : dZip [LN, .tuple [.tuple [.int v]]] = some [.tuple [.tuple [PLn, .int 1], .tuple [.int v]]] := rfl
theorem ti_ln {a x : Int} (ha : a.natAbs < 2 ^ 20) (hx : x.natAbs < 2 ^ 20) : G_times_in [LN, .int a, el x] = some (el (a * x)) := by
  have z := ln_it x
  have tv := tv_ln ha hx
  have tr := trim_ln (.int (a * x))
  have t1 : dTuple [.list [.tuple [.int (a * x)]]] = some (el (a * x)) := rfl
  have nd : isDict (el (a * x)) = false := rfl
  have hx2 : el x = .tuple [.tuple [.int x]] := rfl
  rw [hx2]
  generalize LN = L0 at *
  generalize PLn = P0 at *
  generalize el (a * x) = R0 at *
  simp [G_times_in, fFn, m_times_in, fSeq, fSet, fLst, fCons, fNil, fFor, fRng, fVar, z, fLoop, sTup, sCons, sNil, sName, itT, itL, fApp, fUs, pure1, fLc, fSeqI, wipeE, lcLoop, fYes, tv, tr, fRet, fCall, t1, nd, fnOut]
theorem fi_ln (v : D) : G_filled [PLn, .tuple [v], .int 1] = some (.list [v]) := by
  have l1 : dList [.tuple [v]] = some (.list [v]) := rfl
  have n1 : dLen [.tuple [v]] = some (.int 1) := rfl
  have s1 : dSub (.int 1) (.int 1) = some (.int 0) := rfl
  have r1 : dRep (.list [.int 0]) (.int 0) = some (.list []) := rfl
  have c1 : dCat (.list [v]) (.list []) = some (.list [v]) := by
    show (if [v].length + ([] : List D).length ≤ sizeLine then some (PyData.list ([v] ++ [])) else none) = _
    rw [if_pos (show [v].length + ([] : List D).length ≤ sizeLine from (by decide : 1 + 0 ≤ sizeLine))]
    rfl
  simp [G_filled, fFn, m_filled, fRet, fB2, fCall, fCons, fNil, fVar, l1, n1, s1, fLst, fUs, pure1, zv_ln, r1, c1, isDict, fnOut]
theorem pi_ln (u v : Int) : G_plus_in [LN, el u, el v] = some (el (u + v)) := by
  have z : dZip3 [LN, el u, el v] = some [.tuple [.tuple [PLn, .int 1], .tuple [.int u], .tuple [.int v]]] := rfl
  have n1 : ∀ w : Int, dLen [.tuple [.int w]] = some (.int 1) := fun _ => rfl
  have mx : dMax2 [.int 1, .int 1] = some (.int 1) := rfl
  have f1 := fi_ln (.int u)
  have f2 := fi_ln (.int v)
  have pv := pv_ln u v
  have tr := trim_ln (.int (u + v))
  have np : noPl (zipD [.int u] [.int v]) = true := rfl
  have zd : zipD [PyData.int u] [.int v] = [.tuple [.int u, .int v]] := rfl
  have t1 : dTuple [.list [.tuple [.int (u + v)]]] = some (el (u + v)) := rfl
  have nd : isDict (el (u + v)) = false := rfl
  rw [zd] at np
  generalize LN = L0 at *
  generalize PLn = P0 at *
  generalize el u = U0 at *
  generalize el v = V0 at *
  generalize el (u + v) = R0 at *
  simp [G_plus_in, fFn, m_plus_in, fSeq, fSet, fLst, fCons, fNil, fFor, fRng, fVar, z, fLoop, sTup, sCons, sNil, sName, itT, itL, fCall, n1, mx, fZipApp, fUs, pure1, f1, f2, zd, np, fApp, fLc, wipeE, lcLoop, fYes, pv, tr, fRet, t1, nd, fnOut]
theorem zi_ln : G_zero_in [LN] = some (el 0) := by
  have hit : DL.itemsD LN = some [.tuple [PLn, .int 1]] := rfl
  have mx : dMax2 [.int 0, .int 1] = some (.int 1) := rfl
  have mt : dMulT (.tuple [.int 0]) (.int 1) = some (.tuple [.int 0]) := rfl
  have t1 : dTuple [.list [.tuple [.int 0]]] = some (el 0) := rfl
  have nd : isDict (el 0) = false := rfl
  have zv := zv_ln
  generalize LN = L0 at *
  generalize PLn = P0 at *
  generalize el 0 = R0 at *
  simp [G_zero_in, fFn, m_zero_in, fRet, fCall, fLc, fSeqI, fVar, fCons, fNil, hit, wipeE, lcLoop, sTup, sCons, sNil, sName, itT, itL, fYes, fB2, fTup, fUs, pure1, zv, fC, mx, mt, t1, nd, fnOut]
theorem si_ln {a x : Int} (ha : a.natAbs < 2 ^ 20) (hx : x.natAbs < 2 ^ 20) : G_sum_in [LN, .tuple [.int a], pt x] = some (el (a * x)) := by
  have z : dZip [.tuple [.int a], pt x] = some [.tuple [.int a, el x]] := rfl
  have ti := ti_ln ha hx
  have pi := pi_ln 0 (a * x)
  rw [Int.zero_add] at pi
  have zi := zi_ln
  have nd : isDict (el (a * x)) = false := rfl
  generalize LN = L0 at *
  generalize pt x = X0 at *
  generalize el (a * x) = R0 at *
  generalize el x = E0 at *
  generalize el 0 = Z0 at *
  simp [G_sum_in, fFn, m_sum_in, fSeq, fSet, fUs, pure1, fCons, fNil, fVar, zi, fFor, fRng, z, fLoop, sTup, sCons, sNil, sName, itT, itL, ti, pi, fRet, nd, fnOut]
theorem dv_ln {d v : Int} (hd : 0 < d) (h2 : d ≤ 1000) : G_divided_value [PLn, .int d, .int v] = some (if v % d = 0 then .int (v / d) else .none) := by
  have e0 : dEq (.int d) (.int 0) = some (.bool false) := by rw [eq0, beq_false_of_ne (by omega)]
  have mo := dMod_ok (i := v) (j := d) hd
  have dv := dDiv_ok (i := v) (j := d) hd (by omega)
  have e1 := eq0 (v % d)
  by_cases h : v % d = 0
  · rw [beq_iff_eq.mpr h] at e1
    rw [if_pos h]
    simp [G_divided_value, fFn, m_divided_value, fSeq, fIfS, fTst, fB2, fVar, fC, e0, ln_hd, ln_ring, ln_eq, fNx, fRet, fIf, mo, e1, dv, isDict, fnOut]
  · rw [beq_false_of_ne h] at e1
    rw [if_neg h]
    simp [G_divided_value, fFn, m_divided_value, fSeq, fIfS, fTst, fB2, fVar, fC, e0, ln_hd, ln_ring, ln_eq, fNx, fRet, fIf, mo, e1, isDict, fnOut]
theorem di_ln {d v : Int} (hd : 0 < d) (h2 : d ≤ 1000) : G_divided_in [LN, .int d, el v] = some (if v % d = 0 then el (v / d) else .none) := by
  have z := ln_it v
  have dv := dv_ln (v := v) hd h2
  have hx2 : el v = .tuple [.tuple [.int v]] := rfl
  rw [hx2]
  by_cases h : v % d = 0
  · rw [if_pos h] at dv ⊢
    have ni : dIn .none (.list [.int (v / d)]) = some (.bool false) := rfl
    have tr := trim_ln (.int (v / d))
    have t1 : dTuple [.list [.tuple [.int (v / d)]]] = some (el (v / d)) := rfl
    have nd : isDict (el (v / d)) = false := rfl
    have dP : isDict PLn = false := rfl
    have dI : isDict (.int 1) = false := rfl
    have hn : nol (.tuple [.int (v / d)]) = true := rfl
    have d1 : isDict (.list [.int (v / d)]) = false := rfl
    generalize LN = L0 at *
    generalize PLn = P0 at *
    generalize el (v / d) = R0 at *
    simp [G_divided_in, fFn, m_divided_in, fSeq, fSet, fLst, fCons, fNil, fFor, fRng, fVar, z, fLoop, sTup, sCons, sNil, sName, itT, itL, fLc, fSeqI, wipeE, lcLoop, fYes, fUs, pure1, dv, fIfS, fTst, fB2, fC, ni, fNx, fApp, fUsB, tr, d1, hn, dP, dI, fRet, fCall, t1, nd, fnOut]
  · rw [if_neg h] at dv ⊢
    have ni : dIn .none (.list [.none]) = some (.bool true) := rfl
    generalize LN = L0 at *
    generalize PLn = P0 at *
    simp [G_divided_in, fFn, m_divided_in, fSeq, fSet, fLst, fCons, fNil, fFor, fRng, fVar, z, fLoop, sTup, sCons, sNil, sName, itT, itL, fLc, fSeqI, wipeE, lcLoop, fYes, fUs, pure1, dv, fIfS, fTst, fB2, fC, ni, fRet, isDict, fnOut]
theorem ho_ln {l : Lt} (h : OkL l) (hp : Pos l) {x : Int} (hx : x.natAbs < 2 ^ 20) : G_holds_in [LN, lotD l, pt x] = some (.bool (decide (mlt l ∣ x))) := by
  rw [← mlt_dvd h hp x]
  have hall : ∀ s : Src, gLoop false (sTup (sCons (sName 3) (sCons (sName 4) (sNil)))) (fB2 dNotN (fUs (pure1 G_divided_in) (fCons (fVar 0) (fCons (fVar 3) (fCons (fUs (pure1 G_sum_in) (fCons (fVar 0) (fCons (fVar 4) (fCons (fVar 2) (fNil))))) (fNil))))) (fC .none)) [some LN, some (lotD l), some (pt x), none, none] (l.map rowD) s = some (l.all fun r => (r.2 * x) % r.1 == 0, s) := fun s => by
    rw [g_map rowD (fun r => (r.2 * x) % r.1 == 0)]
    · rfl
    · intro r hr
      refine ⟨[some LN, some (lotD l), some (pt x), some (.int r.1), some (.tuple [.int r.2])], rfl, ?_⟩
      obtain ⟨h1, h2, h3⟩ := h r hr
      have si := si_ln (a := r.2) (x := x) (by omega) hx
      have di := di_ln (d := r.1) (v := r.2 * x) (hp r hr) (by have := (dvals_pos h1).2; omega)
      by_cases q : (r.2 * x) % r.1 = 0
      · rw [if_pos q] at di
        have nn : dNotN (el (r.2 * x / r.1)) .none = some (.bool true) := rfl
        rw [beq_iff_eq.mpr q]
        generalize el (r.2 * x / r.1) = R1 at *
        generalize el (r.2 * x) = R2 at *
        generalize LN = L0 at *
        generalize pt x = X0 at *
        simp [fB2, fUs, pure1, fCons, fNil, fVar, fC, si, di, nn]
      · rw [if_neg q] at di
        have nn : dNotN .none .none = some (.bool false) := rfl
        rw [beq_false_of_ne q]
        generalize el (r.2 * x) = R2 at *
        generalize LN = L0 at *
        generalize pt x = X0 at *
        simp [fB2, fUs, pure1, fCons, fNil, fVar, fC, si, di, nn]
  have hit : DL.itemsD (lotD l) = some (l.map rowD) := rfl
  generalize LN = L0 at *
  generalize pt x = X0 at *
  simp [G_holds_in, fFn, m_holds_in, fRet, fQ, fSeqI, fVar, hit, wipeE, hall, isDict, fnOut]
theorem iv_ln (x : Int) : G_is_value [PLn, .int x] = some (.bool true) := by
  have i1 : G_is_integer [.int x] = some (.bool true) := rfl
  simp [G_is_value, fFn, m_is_value, fSeq, fIfS, fTst, fB2, fVar, fC, ln_hd, ln_eq, fRet, fUs, pure1, fCons, fNil, i1, isDict, fnOut]
theorem av_ln (x : Int) : G_are_values [PLn, .int 1, .tuple [.int x]] = some (.bool true) := by
  have ty : dIsi "tuple" (.tuple [.int x]) = some (.bool true) := rfl
  have e : dEq (.int 1) c_EVER = some (.bool false) := rfl
  have n1 : dLen [.tuple [.int x]] = some (.int 1) := rfl
  have e1 : dEq (.int 1) (.int 1) = some (.bool true) := rfl
  have iv := iv_ln x
  generalize PLn = P0 at *
  simp [G_are_values, fFn, m_are_values, fSeq, fIfS, fOr, fNot, fTst, fU1, fVar, ty, fQ, fSeqI, itT, itL, gLoop, wipeE, sName, fUs, pure1, fCons, fNil, iv, fNx, fB2, fC, e, fRet, fCall, n1, e1, isDict, fnOut]
theorem ie_ln (x : Int) : G_is_element_in [LN, el x] = some (.bool true) := by
  have ty : dIsi "tuple" (el x) = some (.bool true) := rfl
  have n1 : dLen [el x] = some (.int 1) := rfl
  have n2 : dLen [LN] = some (.int 1) := rfl
  have ne : dNe (.int 1) (.int 1) = some (.bool false) := rfl
  have z : dZip [LN, el x] = some [.tuple [.tuple [PLn, .int 1], .tuple [.int x]]] := rfl
  have av := av_ln x
  generalize LN = L0 at *
  generalize PLn = P0 at *
  generalize el x = X0 at *
  simp [G_is_element_in, fFn, m_is_element_in, fSeq, fIfS, fOr, fNot, fTst, fU1, fVar, ty, fB2, fCall, fCons, fNil, n1, n2, ne, fNx, fRet, fQ, fRng, z, gLoop, wipeE, sTup, sCons, sNil, sName, itT, itL, fUs, pure1, av, isDict, fnOut]
theorem ae_ln (x : Int) : G_are_elements_in [LN, .int 1, pt x] = some (.bool true) := by
  have ty : dIsi "tuple" (pt x) = some (.bool true) := rfl
  have n1 : dLen [pt x] = some (.int 1) := rfl
  have e1 : dEq (.int 1) (.int 1) = some (.bool true) := rfl
  have hit : DL.itemsD (pt x) = some [el x] := rfl
  have ie := ie_ln x
  generalize LN = L0 at *
  generalize pt x = X0 at *
  generalize el x = E0 at *
  simp [G_are_elements_in, fFn, m_are_elements_in, fRet, fVal, fAnd, fTst, fU1, fVar, ty, fB2, fCall, fCons, fNil, n1, e1, fQ, fSeqI, hit, gLoop, wipeE, sName, fUs, pure1, ie, isDict, fnOut]
theorem ok1 : OkN 8 (sgl 11 1) := ok_sgl (.inr ⟨by decide, by decide⟩)
theorem ln_gD : gD (sgl 11 1) = LN := gD_sgl (by decide) 1
theorem holds_ln {l : Lt} (h : OkL l) (hp : Pos l) {x : Int} (hx : x.natAbs < 2 ^ 20) : G_lot_holds [LN, lotD l, pt x] = some (.bool (decide (mlt l ∣ x))) := by
  have c1 := check_ok (ok1.ok (by decide))
  rw [ln_gD] at c1
  have c2 := check_lot_ok h
  have ty : dIsi "tuple" (pt x) = some (.bool true) := rfl
  have n1 : dLen [pt x] = some (.int 1) := rfl
  have gt : dGt (.int 1) c_MOST_LETTERS = some (.bool false) := rfl
  have ae := ae_ln x
  have ho := ho_ln h hp hx
  generalize LN = L0 at *
  generalize pt x = X0 at *
  simp [G_lot_holds, fFn, m_lot_holds, fSeq, fDrop, fUs, pure1, fCons, fNil, fVar, c1, fIfS, fOr, fNot, fTst, fU1, ty, fB2, fCall, n1, fC, gt, fNx, ae, c2, fRet, ho, isDict, fnOut]
end Law
namespace Law
open PySem PySem.Spec PyProof.Rows L2 GX DL Ord
/-! the index in one part; least powers -/
def one1 (i : Nat) : D := .tuple [.tuple [P i, .int 1]]
theorem ix1 {i : Nat} {one other : Lt} (hi : i < 32) (h1 : OkL one) (h2 : OkL other) (l1 : one.length ≤ 2) (l2 : other.length ≤ 2) : G_index_in [one1 i, lotD one, lotD other] = some (opt (ipX i one other)) := by
  have e := index_ok h1 h2 l1 l2 (f := sgl i 1) (ok_sgl (.inr ⟨by decide, by decide⟩))
  rw [gD_sgl hi, idx_sgl hi, con_one hi h1 h2 l1 l2, ipv hi h1 h2 l1 l2] at e
  exact e
theorem ix2 {i : Nat} {one other : Lt} (hi : i < 32) (h1 : OkL one) (h2 : OkL other) (l1 : one.length ≤ 2) (l2 : other.length ≤ 2) (hn : ipX i one other = none) : G_index_in [.tuple [.tuple [P i, .int 2]], lotD one, lotD other] = some .none := by
  have e := index_ok h1 h2 l1 l2 (f := sgl i 2) (ok_sgl (.inr ⟨by decide, by decide⟩))
  rw [gD_sgl hi, idx_sgl hi] at e
  have c : con one other (i, 2) = none := by
    unfold con
    rw [ipv hi h1 h2 l1 l2, hn]
  rw [c] at e
  exact e
section
variable {one other : Lt}
theorem ip_line (h1 : Pos one) (h2 : Pos other) : ipX 11 one other = some (mlt (one ++ other) / mlt one) := by
  unfold ipX
  rw [if_pos rfl, mz_pos h1, mz_pos h2]
  rfl
theorem ip_line_z (h : mz one = true) : ipX 11 one other = some 1 := by
  unfold ipX
  rw [if_pos rfl, if_pos h]
theorem ip_no {i : Nat} (hi : i < 12) (h1 : mz one = false) (h2 : mz other = true) : ipX i one other = none := by
  unfold ipX
  rw [h1, h2]
  by_cases c1 : i = 11
  · rw [if_pos c1]; rfl
  · rw [if_neg c1, if_neg (by omega)]
    by_cases c2 : 6 ≤ i ∧ i ≤ 10
    · rw [if_pos c2]; rfl
    · rw [if_neg c2]; rfl
theorem ip_all (h : mz one = true ∨ mz other = false) : ipX 0 one other = some 1 := by
  unfold ipX
  rw [if_neg (by decide), if_neg (by decide), if_neg (by decide)]
  rcases h with h | h
  · rw [if_pos h]
  · cases z : mz one with
    | true => rfl
    | false => rw [h]; rfl
theorem ip_deep1 {i : Nat} (h6 : 6 ≤ i ∧ i ≤ 10) (h1 : mz one = false) (h2 : mz other = false) : ipX i one other = some 1 := by
  unfold ipX
  rw [if_neg (by omega), if_neg (by omega), if_pos h6, h1, h2]
  rfl
theorem ip_deep {i : Nat} (h6 : 6 ≤ i ∧ i ≤ 10) (h1 : mz one = true) : ipX i one other = some (prI i ^ (Ti (prI i) one - Ti (prI i) (one ++ other)).toNat) := by
  unfold ipX
  rw [if_neg (by omega), if_neg (by omega), if_pos h6, if_pos h1]
theorem ip_apart {i : Nat} (h6 : 1 ≤ i ∧ i ≤ 5) (hp : prI i ∈ prs3) (o1 : OkR one) (o2 : OkR other) (q1 : Pos one) (q2 : Pos other) (l1 : one.length ≤ 2) (l2 : other.length ≤ 2) :
    ipX i one other = some (prI i ^ (exV (prI i) (mlt (one ++ other)) - exV (prI i) (mlt one)).toNat) := by
  have hpp := prs3_mem hp
  have l12 : (one ++ other).length ≤ 1000 := by rw [List.length_append]; omega
  have g := Gi_ge hpp (o1.app o2).ok l12
  unfold ipX
  rw [if_neg (by omega), if_neg (by omega), if_neg (by omega), mz_pos q1, mz_pos q2, if_neg (by decide), if_neg (by decide), if_neg (by omega)]
  have e1 : Ei (prI i) (Gi (prI i) (one ++ other)) (one ++ other) = exV (prI i) (mlt (one ++ other)) := by
    unfold Ei
    rw [Ei_vS (one ++ other) 0 (o1.app o2) (q1.app q2) (by decide) fun r hr => g r hr (q1.app q2 r hr), (mlt_ms (o1.app o2) (q1.app q2)).2 _ hp]
  have e2 : Ei (prI i) (Gi (prI i) (one ++ other)) one = exV (prI i) (mlt one) := by
    unfold Ei
    rw [Ei_vS one 0 o1 q1 (by decide) fun r hr => g r (List.mem_append_left _ hr) (q1 r hr), (mlt_ms o1 q1).2 _ hp]
  rw [e1, e2]
theorem ex_le {p : Int} (hp : p ∈ prs3) (o1 : OkR one) (o2 : OkR other) (q1 : Pos one) (q2 : Pos other) : exV p (mlt one) ≤ exV p (mlt (one ++ other)) := by
  rw [(mlt_ms o1 q1).2 p hp, (mlt_ms (o1.app o2) (q1.app q2)).2 p hp, List.foldl_append]
  exact vS_mono p other _
end
/-! the least power of p in the numbers of rows with 0 -/
def zpE : FE := fLc (fSeqI (fVar 1)) (sTup (sCons (sName 3) (sCons (sName 4) (sNil)))) (fTst (fB2 dEq (fVar 3) (fC (.int 0)))) (fUs (pure1 G__law_power_in) (fCons (fVar 0) (fCons (fB2 dIx (fVar 4) (fC (.int 0))) (fNil)))) [3, 4]
theorem m_zp_eq : m__law_zero_power = fSeq (fSet 2 zpE) (fRet (fIf (fTst (fB2 dNe (fVar 2) (fLst (fNil)))) (fCall dMinL (fCons (fVar 2) (fNil))) (fC .none))) := rfl
theorem pow_le {p a b : Int} (hp : p ∈ prs3) (h0 : 0 ≤ a) (hab : a ≤ b) : p ^ a.toNat ≤ p ^ b.toNat := by
  have p0 : 2 ≤ p ∧ p ≤ 5 := of_decide_eq_true (List.all_eq_true.mp (show (prs3.all fun p => decide (2 ≤ p ∧ p ≤ 5)) = true by decide) p hp)
  have q : p ^ b.toNat = p ^ a.toNat * p ^ (b - a).toNat := by
    rw [← Int.pow_add]
    congr 1
    omega
  have pa : 0 < p ^ a.toNat := Int.pow_pos (by omega)
  have pb : 0 < p ^ (b - a).toNat := Int.pow_pos (by omega)
  rw [q]
  have := Int.mul_le_mul_of_nonneg_left (show 1 ≤ p ^ (b - a).toNat by omega) (show 0 ≤ p ^ a.toNat by omega)
  omega
theorem zp_ok {p : Int} {l : Lt} (hp : p ∈ prs3) (h : OkR l) (hl : l.length ≤ 1000) (hz : mz l = true) : G__law_zero_power [.int p, lotD l] = some (.int (p ^ (Ti p l).toNat)) := by
  have hit : DL.itemsD (lotD l) = some (l.map rowD) := rfl
  have hlen : (l.map rowD).length ≤ 1000000 := by rw [List.length_map]; omega
  have hlc : ∀ s : Src, lcLoop (sTup (sCons (sName 3) (sCons (sName 4) (sNil)))) (fTst (fB2 dEq (fVar 3) (fC (.int 0)))) (fUs (pure1 G__law_power_in) (fCons (fVar 0) (fCons (fB2 dIx (fVar 4) (fC (.int 0))) (fNil)))) [some (.int p), some (lotD l), none, none, none] (l.map rowD) s = some (((l.filter fun r => r.1 == 0).map fun r => PyData.int (p ^ (exV p r.2).toNat)), s) := fun s => by
    rw [lc_map rowD (fun r => r.1 == 0) (fun r => .int (p ^ (exV p r.2).toNat))]
    intro r hr
    refine ⟨[some (.int p), some (lotD l), none, some (.int r.1), some (.tuple [.int r.2])], rfl, ?_, fun hq => ?_⟩
    · simp [fTst, fB2, fVar, fC, eq0]
    · obtain ⟨⟨_, h1, h2⟩, h3⟩ := h r hr
      have x0 : dIx (.tuple [.int r.2]) (.int 0) = some (.int r.2) := rfl
      have e := (pw_a hp h1 h2 h3).1
      simp [fUs, pure1, fCons, fNil, fVar, fB2, fC, x0, e]
  obtain ⟨x1, m1, z1, a1, t1⟩ := Ti_mem (prs3_mem hp) h.ok hl hz
  obtain ⟨_, t2, t3⟩ := Ti_ok (prs3_mem hp) h.ok hl hz
  have mem1 : x1 ∈ l.filter fun r => r.1 == 0 := List.mem_filter.mpr ⟨m1, by rw [z1]; rfl⟩
  have all : ∀ x ∈ l.filter fun r => r.1 == 0, x ∈ l ∧ x.1 = 0 ∧ x.2 ≠ 0 := fun x hx => by
    obtain ⟨a, b⟩ := List.mem_filter.mp hx
    exact ⟨a, beq_iff_eq.mp b, (h x a).2⟩
  cases hf : l.filter fun r => r.1 == 0 with
  | nil => rw [hf] at mem1; cases mem1
  | cons r t =>
    rw [hf] at hlc mem1 all
    have hm := minI_mem (t.map fun x => p ^ (exV p x.2).toNat) (p ^ (exV p r.2).toNat)
    have hmn : dMinL [.list ((r :: t).map fun x => PyData.int (p ^ (exV p x.2).toNat))] = some (.int ((t.map fun x => p ^ (exV p x.2).toNat).foldl (fun a b => if b < a then b else a) (p ^ (exV p r.2).toNat))) := by
      show (intsD _).bind _ = _
      rw [intsD_map (fun x : Int × Int => p ^ (exV p x.2).toNat) (r :: t)]
      rfl
    dsimp only at hm
    generalize (t.map fun x => p ^ (exV p x.2).toNat).foldl (fun a b => if b < a then b else a) (p ^ (exV p r.2).toNat) = m at hm hmn
    have lo : m ≤ p ^ (Ti p l).toNat := by
      rw [t1]
      rcases List.mem_cons.mp mem1 with e | e
      · rw [e]; exact hm.2.1
      · exact hm.2.2 _ (List.mem_map.mpr ⟨x1, e, rfl⟩)
    have hi : p ^ (Ti p l).toNat ≤ m := by
      have each : ∀ x ∈ r :: t, p ^ (Ti p l).toNat ≤ p ^ (exV p x.2).toNat := fun x hx => by
        obtain ⟨a, b, c⟩ := all x hx
        exact pow_le hp t2.1 (t3 x a b c)
      rcases hm.1 with e | e
      · rw [e]; exact each r List.mem_cons_self
      · obtain ⟨x, hx, e'⟩ := List.mem_map.mp e
        rw [← e']
        exact each x (List.mem_cons_of_mem _ hx)
    have em : m = p ^ (Ti p l).toNat := by omega
    rw [em] at hmn
    have ez : zpE [some (.int p), some (lotD l), none, none, none] (0, 0, 0) = some (.list ((r :: t).map fun x => PyData.int (p ^ (exV p x.2).toNat)), (0, 0, 0)) := by
      have w : wipeE [some (PyData.int p), some (lotD l), none, none, none] [3, 4] = [some (.int p), some (lotD l), none, none, none] := rfl
      simp only [zpE, fLc, fSeqI, fVar, List.getD_cons_zero, List.getD_cons_succ, Option.map_some, Option.bind_some, hit, hlen, if_true, w, hlc]
    have ne : dNe (.list ((r :: t).map fun x => PyData.int (p ^ (exV p x.2).toNat))) (.list []) = some (.bool true) := by
      have key : ∀ (a : Int) (ds : List Int), dNe (.list ((a :: ds).map PyData.int)) (.list []) = some (.bool true) := fun a ds => by
        have c1 : ∀ ds : List Int, PyData.canLayAll0 (ds.map PyData.int) = true ∧ PyData.depthAll (ds.map PyData.int) ≤ 0 := fun ds => by
          induction ds with
          | nil => exact ⟨rfl, Nat.le_refl _⟩
          | cons x ds ih =>
            constructor
            · simp [PyData.canLayAll0, PyData.canLay0, ih.1]
            · have := ih.2
              simp only [List.map_cons, PyData.depthAll, PyData.depth]
              omega
        obtain ⟨h1, h2⟩ := c1 (a :: ds)
        have h2 : PyData.depthAll ((a :: ds).map PyData.int) ≤ 63 := by omega
        have e1 : shp (.list ((a :: ds).map PyData.int)) = true := by
          generalize (a :: ds).map PyData.int = L at *
          simp [shp, SeqAt.shaped, PyData.canLay0, PyData.depth, isDict, h1, h2]
        have e2 : shp (.list []) = true := rfl
        have e3 : PyData.eqv (.list ((a :: ds).map PyData.int)) (.list []) = false := by simp [PyData.eqv, PyData.eqvAll]
        unfold dNe
        rw [e1, e2, e3]
        rfl
      have := key (p ^ (exV p r.2).toNat) (t.map fun x => p ^ (exV p x.2).toNat)
      rw [List.map_cons, List.map_map] at this
      exact this
    generalize ((r :: t).map fun x => PyData.int (p ^ (exV p x.2).toNat)) = ds at *
    simp only [G__law_zero_power, fFn, m_zp_eq, fSeq, fSet, Bool.false_eq_true, if_false, List.nil_append, List.map_cons (f := some), List.map_nil, List.cons_append, List.length_cons, List.length_nil, List.replicate, Option.map_some, Option.bind_some, ez, List.set_cons_succ, List.set_cons_zero]
    simp [fRet, fIf, fTst, fB2, fVar, fLst, fCons, fNil, ne, fCall, hmn, isDict, fnOut]
end Law
namespace Law
open PySem PySem.Spec PyProof.Rows L2 GX DL Ord
/-! the law -/
theorem fSeq_nx {g h : FS} {ρ ρ1 : DL.Env} {s s1 : Src} (e : g ρ s = some (.nx, ρ1, s1)) : fSeq g h ρ s = h ρ1 s1 := by
  unfold fSeq
  rw [e]
  rfl
theorem same_any {n : Nat} {d : D} (h : Nice n d) (hn : n ≤ sizeLine) (hs : isDict d = false) : G__law_same [d, d] = some (.bool true) := by
  have e := h.reprA hn hs
  have e2 := h.txt.eq
  simp [G__law_same, fFn, m__law_same, fRet, fB2, fCall, fCons, fNil, fVar, e, e2, isDict, fnOut]
def U1 : FS := fPar [10, 11] (fCons (fUs H__law_rows (fCons (fC (.bool false)) (fNil))) (fCons (fUs H__law_rows (fCons (fC (.bool false)) (fNil))) (fNil)))
def U2 : FS := fPar [12, 13] (fCons (fUs (pure1 G__law_multiple) (fCons (fVar 10) (fNil))) (fCons (fUs (pure1 G__law_multiple) (fCons (fB2 dAdd (fVar 10) (fVar 11)) (fNil))) (fNil)))
def U3 : FS := fIfS (fNot (fTst (fUs (pure1 G__law_same) (fCons (fLst (fCons (fUs (pure1 G_index_in) (fCons (fVar 2) (fCons (fVar 10) (fCons (fVar 11) (fNil))))) (fCons (fUsK G_index_in 0 3 [2, 1, 0] fNil (fCons (fVar 11) (fCons (fVar 10) (fCons (fVar 2) (fNil))))) (fNil)))) (fCons (fB2 dRep (fLst (fCons (fB2 dDiv (fVar 13) (fVar 12)) (fNil))) (fC (.int 2))) (fNil)))))) (fRet (fC (.bool false))) (fNx)
def V1 : FS := fSet 14 (fLst (fCons (fUs (pure1 G__law_power_in) (fCons (fVar 6) (fCons (fVar 12) (fNil)))) (fCons (fUs (pure1 G__law_power_in) (fCons (fVar 6) (fCons (fVar 13) (fNil)))) (fNil))))
def V2 : FS := fIfS (fNot (fTst (fUs (pure1 G__law_same) (fCons (fUs (pure1 G_index_in) (fCons (fTup (fCons (fTup (fCons (fTup (fCons (fC (.str "apart")) (fCons (fVar 6) (fNil)))) (fCons (fC (.int 1)) (fNil)))) (fNil))) (fCons (fVar 10) (fCons (fVar 11) (fNil))))) (fCons (fB2 dDiv (fB2 dIx (fVar 14) (fC (.int 1))) (fB2 dIx (fVar 14) (fC (.int 0)))) (fNil)))))) (fRet (fC (.bool false))) (fNx)
def V3 : FS := fIfS (fNot (fTst (fUs (pure1 G__law_same) (fCons (fLst (fCons (fUs (pure1 G_index_in) (fCons (fTup (fCons (fTup (fCons (fTup (fCons (fC (.str "deep")) (fCons (fVar 6) (fNil)))) (fCons (fC (.int 1)) (fNil)))) (fNil))) (fCons (fVar 10) (fCons (fVar 11) (fNil))))) (fCons (fUs (pure1 G_index_in) (fCons (fVar 3) (fCons (fVar 10) (fCons (fVar 11) (fNil))))) (fNil)))) (fCons (fLst (fCons (fC (.int 1)) (fCons (fC (.int 1)) (fNil)))) (fNil)))))) (fRet (fC (.bool false))) (fNx)
def pB : FS := fSeq V1 (fSeq V2 V3)
def U4 : FS := fFor (fSeqI (fTup (fCons (fC (.int 2)) (fCons (fC (.int 3)) (fCons (fC (.int 5)) (fNil)))))) (sName 6) pB
def U5 : FS := fSet 7 (fB2 dSub (fUs H__law_draw (fCons (fC (.int 400)) (fNil))) (fC (.int 200)))
def U6 : FS := fIfS (fNot (fTst (fUs (pure1 G__law_same) (fCons (fUs (pure1 G_lot_holds) (fCons (fVar 2) (fCons (fVar 10) (fCons (fTup (fCons (fTup (fCons (fTup (fCons (fVar 7) (fNil))) (fNil))) (fNil))) (fNil))))) (fCons (fB2 dEq (fB2 dMod (fVar 7) (fVar 12)) (fC (.int 0))) (fNil)))))) (fRet (fC (.bool false))) (fNx)
def U7 : FS := fPar [10, 11] (fCons (fUs H__law_rows (fCons (fC (.bool true)) (fNil))) (fCons (fUs H__law_rows (fCons (fC (.bool true)) (fNil))) (fNil)))
def U8 : FS := fSet 8 (fLc (fSeqI (fTup (fCons (fVar 10) (fCons (fB2 dAdd (fVar 10) (fVar 11)) (fNil))))) (sName 15) (fYes) (fCall dAnyL (fCons (fLc (fSeqI (fVar 15)) (sTup (sCons (sName 16) (sCons (sName 17) (sNil)))) (fYes) (fB2 dEq (fVar 16) (fC (.int 0))) [16, 17]) (fNil))) [15])
def U9 : FS := fSet 9 (fIf (fTst (fB2 dEq (fVar 8) (fLst (fCons (fC (.bool false)) (fCons (fC (.bool true)) (fNil)))))) (fC .none) (fC (.int 1)))
def U10 : FS := fIfS (fOr (fNot (fTst (fUs (pure1 G__law_same) (fCons (fUs (pure1 G_index_in) (fCons (fVar 3) (fCons (fVar 10) (fCons (fVar 11) (fNil))))) (fCons (fVar 9) (fNil)))))) (fAnd (fTst (fB2 dIx (fVar 8) (fC (.int 0)))) (fNot (fTst (fUs (pure1 G__law_same) (fCons (fUs (pure1 G_index_in) (fCons (fVar 2) (fCons (fVar 10) (fCons (fVar 11) (fNil))))) (fCons (fC (.int 1)) (fNil)))))))) (fRet (fC (.bool false))) (fNx)
def U11 : FS := fIfS (fAnd (fTst (fB2 dEq (fVar 8) (fLst (fCons (fC (.bool false)) (fCons (fC (.bool true)) (fNil)))))) (fOr (fTst (fB2 dNotN (fUs (pure1 G_index_in) (fCons (fVar 2) (fCons (fVar 10) (fCons (fVar 11) (fNil))))) (fC .none))) (fTst (fB2 dNotN (fUs (pure1 G_index_in) (fCons (fTup (fCons (fTup (fCons (fTup (fCons (fC (.str "apart")) (fCons (fC (.int 3)) (fNil)))) (fCons (fC (.int 2)) (fNil)))) (fNil))) (fCons (fVar 10) (fCons (fVar 11) (fNil))))) (fC .none))))) (fRet (fC (.bool false))) (fNx)
def W1 : FS := fIfS (fTst (fB2 dIx (fVar 8) (fC (.int 0)))) (fSet 9 (fB2 dDiv (fUs (pure1 G__law_zero_power) (fCons (fVar 6) (fCons (fVar 10) (fNil)))) (fUs (pure1 G__law_zero_power) (fCons (fVar 6) (fCons (fB2 dAdd (fVar 10) (fVar 11)) (fNil)))))) (fNx)
def W2 : FS := fIfS (fNot (fTst (fUs (pure1 G__law_same) (fCons (fUs (pure1 G_index_in) (fCons (fTup (fCons (fTup (fCons (fTup (fCons (fC (.str "deep")) (fCons (fVar 6) (fNil)))) (fCons (fC (.int 1)) (fNil)))) (fNil))) (fCons (fVar 10) (fCons (fVar 11) (fNil))))) (fCons (fVar 9) (fNil)))))) (fRet (fC (.bool false))) (fNx)
def qB : FS := fSeq W1 W2
def U12 : FS := fFor (fSeqI (fTup (fCons (fC (.int 2)) (fCons (fC (.int 3)) (fNil))))) (sName 6) qB
def tB : FS := fSeq U1 (fSeq U2 (fSeq U3 (fSeq U4 (fSeq U5 (fSeq U6 (fSeq U7 (fSeq U8 (fSeq U9 (fSeq U10 (fSeq U11 U12))))))))))
theorem m_law_eq (ns : List Int) : m_law ns = fSeq (fAsg (sTup (sCons (sName 2) (sCons (sName 3) (sNil)))) (fTup (fCons (fTup (fCons (fTup (fCons (fTup (fCons (fC (.str "line")) (fNil))) (fCons (fC (.int 1)) (fNil)))) (fNil))) (fCons (fTup (fCons (fTup (fCons (fTup (fCons (fC (.str "all")) (fNil))) (fCons (fC (.int 1)) (fNil)))) (fNil))) (fNil))))) (fSeq (fFor (fRng dRange1 (fCons (fCall dMax2 (fCons (fC (.int 1)) (fCons (fCall dMin2 (fCons (fC (.int 3)) (fCons (fC (.int ns.length)) (fNil)))) (fNil)))) (fNil))) (sName 1) (fTurn 4 ns L__law_source (fVar 1) (fFor (fRng dRange1 (fCons (fC (.int 4)) (fNil))) (sName 5) tB))) (fRet (fC (.bool true)))) := rfl
def EV : D := .tuple [.tuple [.tuple [.str "all"], .int 1]]
abbrev En (a1 a5 x6 x7 x8 x9 x10 x11 x12 x13 x14 x15 x16 x17 : Option D) : DL.Env := [none, a1, some LN, some EV, none, a5, x6, x7, x8, x9, x10, x11, x12, x13, x14, x15, x16, x17]
def zE : FE := fCall dAnyL (fCons (fLc (fSeqI (fVar 15)) (sTup (sCons (sName 16) (sCons (sName 17) (sNil)))) (fYes) (fB2 dEq (fVar 16) (fC (.int 0))) [16, 17]) (fNil))
theorem U8_eq : U8 = fSet 8 (fLc (fSeqI (fTup (fCons (fVar 10) (fCons (fB2 dAdd (fVar 10) (fVar 11)) (fNil))))) (sName 15) (fYes) zE [15]) := rfl
section
variable {a1 a5 x6 x7 x8 x9 x10 x11 x12 x13 x14 x15 x16 x17 : Option D} {s s1 s2 : Src} {L1 L2 LB M1 M2 I A B p X R : D} {z1 z2 : Bool}
theorem u1_op (e1 : H__law_rows [.bool false] s = some (L1, s1)) (e2 : H__law_rows [.bool false] s1 = some (L2, s2)) : U1 (En a1 a5 x6 x7 x8 x9 x10 x11 x12 x13 x14 x15 x16 x17) s = some (.nx, En a1 a5 x6 x7 x8 x9 (some L1) (some L2) x12 x13 x14 x15 x16 x17, s2) := by
  simp [U1, En, fPar, setAll, fUs, fCons, fNil, fC, e1, e2]
theorem u7_op (e1 : H__law_rows [.bool true] s = some (L1, s1)) (e2 : H__law_rows [.bool true] s1 = some (L2, s2)) : U7 (En a1 a5 x6 x7 x8 x9 x10 x11 x12 x13 x14 x15 x16 x17) s = some (.nx, En a1 a5 x6 x7 x8 x9 (some L1) (some L2) x12 x13 x14 x15 x16 x17, s2) := by
  simp [U7, En, fPar, setAll, fUs, fCons, fNil, fC, e1, e2]
theorem u2_op (ad : dAdd L1 L2 = some LB) (e1 : G__law_multiple [L1] = some M1) (e2 : G__law_multiple [LB] = some M2) : U2 (En a1 a5 x6 x7 x8 x9 (some L1) (some L2) x12 x13 x14 x15 x16 x17) s = some (.nx, En a1 a5 x6 x7 x8 x9 (some L1) (some L2) (some M1) (some M2) x14 x15 x16 x17, s) := by
  simp [U2, En, fPar, setAll, fUs, pure1, fCons, fNil, fVar, fB2, ad, e1, e2]
theorem u3_op (e : G_index_in [LN, L1, L2] = some I) (dv : dDiv M2 M1 = some I) (sm : G__law_same [.list [I, I], .list [I, I]] = some (.bool true)) : U3 (En a1 a5 x6 x7 x8 x9 (some L1) (some L2) (some M1) (some M2) x14 x15 x16 x17) s = some (.nx, En a1 a5 x6 x7 x8 x9 (some L1) (some L2) (some M1) (some M2) x14 x15 x16 x17, s) := by
  have kk : DL.putIn 0 3 [2, 1, 0] [] [L2, L1, LN] = [LN, L1, L2] := rfl
  have rp : dRep (.list [I]) (.int 2) = some (.list [I, I]) := rfl
  simp [U3, En, fIfS, fNot, fTst, fUs, fUsK, pure1, fLst, fCons, fNil, fVar, fB2, fC, kk, e, dv, rp, sm, fNx]
theorem v1_op (e1 : G__law_power_in [p, M1] = some A) (e2 : G__law_power_in [p, M2] = some B) : V1 (En a1 a5 (some p) x7 x8 x9 x10 x11 (some M1) (some M2) x14 x15 x16 x17) s = some (.nx, En a1 a5 (some p) x7 x8 x9 x10 x11 (some M1) (some M2) (some (.list [A, B])) x15 x16 x17, s) := by
  simp [V1, En, fSet, fLst, fUs, pure1, fCons, fNil, fVar, e1, e2]
theorem v2_op (e : G_index_in [.tuple [.tuple [.tuple [.str "apart", p], .int 1]], L1, L2] = some I) (dv : dDiv B A = some I) (sm : G__law_same [I, I] = some (.bool true)) : V2 (En a1 a5 (some p) x7 x8 x9 (some L1) (some L2) x12 x13 (some (.list [A, B])) x15 x16 x17) s = some (.nx, En a1 a5 (some p) x7 x8 x9 (some L1) (some L2) x12 x13 (some (.list [A, B])) x15 x16 x17, s) := by
  have i0 : dIx (.list [A, B]) (.int 0) = some A := rfl
  have i1 : dIx (.list [A, B]) (.int 1) = some B := rfl
  simp [V2, En, fIfS, fNot, fTst, fUs, pure1, fTup, fCons, fNil, fVar, fB2, fC, e, i0, i1, dv, sm, fNx]
theorem v3_op (e1 : G_index_in [.tuple [.tuple [.tuple [.str "deep", p], .int 1]], L1, L2] = some (.int 1)) (e2 : G_index_in [EV, L1, L2] = some (.int 1)) (sm : G__law_same [.list [.int 1, .int 1], .list [.int 1, .int 1]] = some (.bool true)) : V3 (En a1 a5 (some p) x7 x8 x9 (some L1) (some L2) x12 x13 x14 x15 x16 x17) s = some (.nx, En a1 a5 (some p) x7 x8 x9 (some L1) (some L2) x12 x13 x14 x15 x16 x17, s) := by
  simp [V3, En, fIfS, fNot, fTst, fUs, pure1, fLst, fTup, fCons, fNil, fVar, fC, e1, e2, sm, fNx]
theorem u5_op {v : Int} (e : H__law_draw [.int 400] s = some (.int v, s1)) : U5 (En a1 a5 x6 x7 x8 x9 x10 x11 x12 x13 x14 x15 x16 x17) s = some (.nx, En a1 a5 x6 (some (.int (v - 200))) x8 x9 x10 x11 x12 x13 x14 x15 x16 x17, s1) := by
  have sb : dSub (.int v) (.int 200) = some (.int (v - 200)) := rfl
  simp [U5, En, fSet, fB2, fUs, fCons, fNil, fC, e, sb]
theorem u6_op (e : G_lot_holds [LN, L1, .tuple [.tuple [.tuple [X]]]] = some B) (mo : dMod X M1 = some R) (eq : dEq R (.int 0) = some B) (sm : G__law_same [B, B] = some (.bool true)) : U6 (En a1 a5 x6 (some X) x8 x9 (some L1) x11 (some M1) x13 x14 x15 x16 x17) s = some (.nx, En a1 a5 x6 (some X) x8 x9 (some L1) x11 (some M1) x13 x14 x15 x16 x17, s) := by
  simp [U6, En, fIfS, fNot, fTst, fUs, pure1, fTup, fCons, fNil, fVar, fB2, fC, e, mo, eq, sm, fNx]
theorem u8_op (ad : dAdd L1 L2 = some LB) (h1 : zE (En a1 a5 x6 x7 x8 x9 (some L1) (some L2) x12 x13 x14 (some L1) x16 x17) s = some (.bool z1, s)) (h2 : zE (En a1 a5 x6 x7 x8 x9 (some L1) (some L2) x12 x13 x14 (some LB) x16 x17) s = some (.bool z2, s)) :
    U8 (En a1 a5 x6 x7 x8 x9 (some L1) (some L2) x12 x13 x14 x15 x16 x17) s = some (.nx, En a1 a5 x6 x7 (some (.list [.bool z1, .bool z2])) x9 (some L1) (some L2) x12 x13 x14 x15 x16 x17, s) := by
  have t1 : (fTup (fCons (fVar 10) (fCons (fB2 dAdd (fVar 10) (fVar 11)) (fNil)))) (En a1 a5 x6 x7 x8 x9 (some L1) (some L2) x12 x13 x14 x15 x16 x17) s = some (.tuple [L1, LB], s) := by
    simp [En, fTup, fCons, fNil, fVar, fB2, ad]
  have it : DL.itemsD (.tuple [L1, LB]) = some [L1, LB] := rfl
  have w : wipeE (En a1 a5 x6 x7 x8 x9 (some L1) (some L2) x12 x13 x14 x15 x16 x17) [15] = En a1 a5 x6 x7 x8 x9 (some L1) (some L2) x12 x13 x14 none x16 x17 := rfl
  have g1 : sName 15 L1 (En a1 a5 x6 x7 x8 x9 (some L1) (some L2) x12 x13 x14 none x16 x17) = some (En a1 a5 x6 x7 x8 x9 (some L1) (some L2) x12 x13 x14 (some L1) x16 x17) := rfl
  have g2 : sName 15 LB (En a1 a5 x6 x7 x8 x9 (some L1) (some L2) x12 x13 x14 none x16 x17) = some (En a1 a5 x6 x7 x8 x9 (some L1) (some L2) x12 x13 x14 (some LB) x16 x17) := rfl
  have lc : lcLoop (sName 15) (fYes) zE (En a1 a5 x6 x7 x8 x9 (some L1) (some L2) x12 x13 x14 none x16 x17) [L1, LB] s = some ([.bool z1, .bool z2], s) := by
    simp only [lcLoop, g1, g2, Option.bind_some, fYes, if_true, h1, h2, Option.map_some]
  rw [U8_eq]
  unfold fSet fLc fSeqI
  rw [t1, Option.bind_some, it, Option.map_some, Option.bind_some, if_pos (show [L1, LB].length ≤ 1000000 from (by decide : 2 ≤ 1000000)), w, lc]
  rfl
theorem u9_op (e : dEq (.list [.bool z1, .bool z2]) (.list [.bool false, .bool true]) = some (.bool (!z1 && z2))) : U9 (En a1 a5 x6 x7 (some (.list [.bool z1, .bool z2])) x9 x10 x11 x12 x13 x14 x15 x16 x17) s = some (.nx, En a1 a5 x6 x7 (some (.list [.bool z1, .bool z2])) (some (if (!z1 && z2) = true then .none else .int 1)) x10 x11 x12 x13 x14 x15 x16 x17, s) := by
  cases h : (!z1 && z2) with
  | true =>
    rw [h] at e
    simp [U9, En, fSet, fIf, fTst, fB2, fVar, fLst, fCons, fNil, fC, e]
  | false =>
    rw [h] at e
    simp [U9, En, fSet, fIf, fTst, fB2, fVar, fLst, fCons, fNil, fC, e]
theorem u10_no (e : G_index_in [EV, L1, L2] = some I) (sm : G__law_same [I, I] = some (.bool true)) : U10 (En a1 a5 x6 x7 (some (.list [.bool false, .bool z2])) (some I) (some L1) (some L2) x12 x13 x14 x15 x16 x17) s = some (.nx, En a1 a5 x6 x7 (some (.list [.bool false, .bool z2])) (some I) (some L1) (some L2) x12 x13 x14 x15 x16 x17, s) := by
  have i0 : dIx (.list [.bool false, .bool z2]) (.int 0) = some (.bool false) := rfl
  simp [U10, En, fIfS, fOr, fAnd, fNot, fTst, fUs, pure1, fCons, fNil, fVar, fB2, fC, e, sm, i0, fNx]
theorem u10_yes (e : G_index_in [EV, L1, L2] = some (.int 1)) (sm : G__law_same [.int 1, .int 1] = some (.bool true)) (e2 : G_index_in [LN, L1, L2] = some (.int 1)) : U10 (En a1 a5 x6 x7 (some (.list [.bool true, .bool z2])) (some (.int 1)) (some L1) (some L2) x12 x13 x14 x15 x16 x17) s = some (.nx, En a1 a5 x6 x7 (some (.list [.bool true, .bool z2])) (some (.int 1)) (some L1) (some L2) x12 x13 x14 x15 x16 x17, s) := by
  have i0 : dIx (.list [.bool true, .bool z2]) (.int 0) = some (.bool true) := rfl
  simp [U10, En, fIfS, fOr, fAnd, fNot, fTst, fUs, pure1, fCons, fNil, fVar, fB2, fC, e, sm, i0, e2, fNx]
theorem u11_no {Z : D} (e : dEq Z (.list [.bool false, .bool true]) = some (.bool false)) : U11 (En a1 a5 x6 x7 (some Z) x9 x10 x11 x12 x13 x14 x15 x16 x17) s = some (.nx, En a1 a5 x6 x7 (some Z) x9 x10 x11 x12 x13 x14 x15 x16 x17, s) := by
  simp [U11, En, fIfS, fAnd, fTst, fB2, fVar, fLst, fCons, fNil, fC, e, fNx]
theorem u11_yes {Z : D} (e : dEq Z (.list [.bool false, .bool true]) = some (.bool true)) (e1 : G_index_in [LN, L1, L2] = some .none) (e2 : G_index_in [.tuple [.tuple [.tuple [.str "apart", .int 3], .int 2]], L1, L2] = some .none) : U11 (En a1 a5 x6 x7 (some Z) x9 (some L1) (some L2) x12 x13 x14 x15 x16 x17) s = some (.nx, En a1 a5 x6 x7 (some Z) x9 (some L1) (some L2) x12 x13 x14 x15 x16 x17, s) := by
  have nn : dNotN .none .none = some (.bool false) := rfl
  simp [U11, En, fIfS, fAnd, fOr, fTst, fB2, fVar, fLst, fTup, fUs, pure1, fCons, fNil, fC, e, e1, e2, nn, fNx]
theorem w1_no : W1 (En a1 a5 (some p) x7 (some (.list [.bool false, .bool z2])) x9 x10 x11 x12 x13 x14 x15 x16 x17) s = some (.nx, En a1 a5 (some p) x7 (some (.list [.bool false, .bool z2])) x9 x10 x11 x12 x13 x14 x15 x16 x17, s) := by
  have i0 : dIx (.list [.bool false, .bool z2]) (.int 0) = some (.bool false) := rfl
  simp [W1, En, fIfS, fTst, fB2, fVar, fC, i0, fNx]
theorem w1_yes (ad : dAdd L1 L2 = some LB) (e1 : G__law_zero_power [p, L1] = some A) (e2 : G__law_zero_power [p, LB] = some B) (dv : dDiv A B = some I) : W1 (En a1 a5 (some p) x7 (some (.list [.bool true, .bool z2])) x9 (some L1) (some L2) x12 x13 x14 x15 x16 x17) s = some (.nx, En a1 a5 (some p) x7 (some (.list [.bool true, .bool z2])) (some I) (some L1) (some L2) x12 x13 x14 x15 x16 x17, s) := by
  have i0 : dIx (.list [.bool true, .bool z2]) (.int 0) = some (.bool true) := rfl
  simp [W1, En, fIfS, fSet, fTst, fB2, fVar, fUs, pure1, fCons, fNil, fC, i0, ad, e1, e2, dv]
theorem w2_op (e : G_index_in [.tuple [.tuple [.tuple [.str "deep", p], .int 1]], L1, L2] = some I) (sm : G__law_same [I, I] = some (.bool true)) : W2 (En a1 a5 (some p) x7 x8 (some I) (some L1) (some L2) x12 x13 x14 x15 x16 x17) s = some (.nx, En a1 a5 (some p) x7 x8 (some I) (some L1) (some L2) x12 x13 x14 x15 x16 x17, s) := by
  simp [W2, En, fIfS, fNot, fTst, fUs, pure1, fTup, fCons, fNil, fVar, fC, e, sm, fNx]
theorem z_ok {l : Lt} (hl : l.length ≤ 4) : zE (En a1 a5 x6 x7 x8 x9 x10 x11 x12 x13 x14 (some (lotD l)) x16 x17) s = some (.bool (l.any fun r => r.1 == 0), s) := by
  have hit : DL.itemsD (lotD l) = some (l.map rowD) := rfl
  have hlen : (l.map rowD).length ≤ 1000000 := by rw [List.length_map]; omega
  have w : wipeE (En a1 a5 x6 x7 x8 x9 x10 x11 x12 x13 x14 (some (lotD l)) x16 x17) [16, 17] = En a1 a5 x6 x7 x8 x9 x10 x11 x12 x13 x14 (some (lotD l)) none none := rfl
  have hv : fVar 15 (En a1 a5 x6 x7 x8 x9 x10 x11 x12 x13 x14 (some (lotD l)) x16 x17) s = some (lotD l, s) := rfl
  have hlc : lcLoop (sTup (sCons (sName 16) (sCons (sName 17) (sNil)))) (fYes) (fB2 dEq (fVar 16) (fC (.int 0))) (En a1 a5 x6 x7 x8 x9 x10 x11 x12 x13 x14 (some (lotD l)) none none) (l.map rowD) s = some (l.map fun r => PyData.bool (r.1 == 0), s) := by
    rw [lc_map rowD (fun _ => true) (fun r => PyData.bool (r.1 == 0)) l]
    · rw [List.filter_eq_self.mpr fun _ _ => rfl]
    · intro r hr
      refine ⟨En a1 a5 x6 x7 x8 x9 x10 x11 x12 x13 x14 (some (lotD l)) (some (.int r.1)) (some (.tuple [.int r.2])), rfl, rfl, fun _ => ?_⟩
      simp [En, fB2, fVar, fC, eq0]
  have an : dAnyL [.list (l.map fun r => PyData.bool (r.1 == 0))] = some (.bool (l.any fun r => r.1 == 0)) := by
    show (boolsD _).map _ = _
    rw [bools_map, Option.map_some, List.any_map]
    rfl
  simp only [zE, fCall, fCons, fNil, fLc, fSeqI, hv, Option.bind_some, hit, Option.map_some, hlen, if_true, w, hlc, an]
end
theorem mz_any {l : Lt} (h : OkR l) : (l.any fun r => r.1 == 0) = mz l := by
  unfold mz
  induction l with
  | nil => rfl
  | cons r l ih =>
    have h2 := (h r List.mem_cons_self).2
    rw [List.any_cons, List.any_cons, ih fun y hy => h y (List.mem_cons_of_mem _ hy), beq_false_of_ne h2]
    simp
/-! equal answers -/
theorem nn {v : Int} (h0 : 0 ≤ v) (h : v ≤ 1000000) : Nice 1921 (.int v) := nice_nat h0 (Nat.lt_of_lt_of_le (show v.natAbs < 2 ^ 20 by omega) (Nat.pow_le_pow_right (by decide) (by decide)))
theorem same1 {v : Int} (h0 : 0 ≤ v) (h : v ≤ 1000000) : G__law_same [.int v, .int v] = some (.bool true) := same_any (nn h0 h) (show 1921 ≤ sizeLine by decide) rfl
theorem same2 {v : Int} (h0 : 0 ≤ v) (h : v ≤ 1000000) : G__law_same [.list [.int v, .int v], .list [.int v, .int v]] = some (.bool true) := same_any (nice_list (n := 1921) (k := 0) (fun d hd => by
    simp only [List.mem_cons, List.not_mem_nil, or_false] at hd
    rcases hd with rfl | rfl <;> exact ⟨nn h0 h, by rw [PyData.depth]; omega⟩) (by decide)) (show 2 * (1921 + 2) + 2 ≤ sizeLine by decide) rfl
theorem sameN : G__law_same [.none, .none] = some (.bool true) := same_any nice_none (show 1921 ≤ sizeLine by decide) rfl
theorem sameB (b : Bool) : G__law_same [.bool b, .bool b] = some (.bool true) := by
  cases b
  · exact same_any (nice_of (n := 99) (by decide +kernel)) (show 99 ≤ sizeLine by decide) rfl
  · exact same_any (nice_of (n := 99) (by decide +kernel)) (show 99 ≤ sizeLine by decide) rfl
theorem zeq (z1 z2 : Bool) : dEq (.list [.bool z1, .bool z2]) (.list [.bool false, .bool true]) = some (.bool (!z1 && z2)) := by
  cases z1 <;> cases z2 <;> exact eqB_eq (by decide +kernel)
theorem pow_small {p e : Int} (hp : p ∈ prs3) (h4 : e ≤ 4) : 0 ≤ p ^ e.toNat ∧ p ^ e.toNat ≤ 1000000 := by
  have h : (prs3.all fun p => (List.range 5).all fun n => decide (0 ≤ p ^ n ∧ p ^ n ≤ 1000000)) = true := by decide +kernel
  exact of_decide_eq_true (List.all_eq_true.mp (List.all_eq_true.mp h p hp) e.toNat (List.mem_range.mpr (by omega)))
section
variable {a1 a5 x6 x7 x8 x9 x10 x11 x12 x13 x14 x15 x16 x17 : Option D} {s : Src} {L1 L2 : Lt}
theorem p_step {p : Int} {i j : Nat} (o1 : OkR L1) (o2 : OkR L2) (q1 : Pos L1) (q2 : Pos L2) (l1 : L1.length ≤ 2) (l2 : L2.length ≤ 2) (hp : p ∈ prs3) (hi : 1 ≤ i ∧ i ≤ 5) (hj : 6 ≤ j ∧ j ≤ 10) (pi : P i = .tuple [.str "apart", .int p]) (pj : P j = .tuple [.str "deep", .int p]) (ei : prI i = p) :
    ∃ y, pB (En a1 a5 (some (.int p)) x7 x8 x9 (some (lotD L1)) (some (lotD L2)) (some (.int (mlt L1))) (some (.int (mlt (L1 ++ L2)))) x14 x15 x16 x17) s = some (.nx, En a1 a5 (some (.int p)) x7 x8 x9 (some (lotD L1)) (some (lotD L2)) (some (.int (mlt L1))) (some (.int (mlt (L1 ++ L2)))) y x15 x16 x17, s) := by
  have m1 := (mlt_ms o1 q1).1
  have m2 := (mlt_ms (o1.app o2) (q1.app q2)).1
  obtain ⟨e1, b1, b2⟩ := pw_ms hp m1
  obtain ⟨e2, b3, b4⟩ := pw_ms hp m2
  have le := ex_le hp o1 o2 q1 q2
  have dv := pow_div hp b1 le b4
  have ix := ix1 (i := i) (by omega) o1.ok o2.ok l1 l2
  rw [ip_apart hi (by rw [ei]; exact hp) o1 o2 q1 q2 l1 l2, ei] at ix
  unfold one1 at ix
  rw [pi] at ix
  have ps := pow_small hp (e := exV p (mlt (L1 ++ L2)) - exV p (mlt L1)) (by omega)
  have dx := ix1 (i := j) (by omega) o1.ok o2.ok l1 l2
  rw [ip_deep1 hj (mz_pos q1) (mz_pos q2)] at dx
  unfold one1 at dx
  rw [pj] at dx
  have ax := ix1 (i := 0) (by decide) o1.ok o2.ok l1 l2
  rw [ip_all (.inr (mz_pos q2))] at ax
  have ax : G_index_in [EV, lotD L1, lotD L2] = some (.int 1) := ax
  refine ⟨some (.list [.int (p ^ (exV p (mlt L1)).toNat), .int (p ^ (exV p (mlt (L1 ++ L2))).toNat)]), ?_⟩
  unfold pB
  rw [fSeq_nx (v1_op e1 e2), fSeq_nx (v2_op ix dv (same1 ps.1 ps.2))]
  exact v3_op dx ax (same2 (by decide) (by decide))
theorem p_list {k : Nat} {d : D} (h : [PyData.int 2, .int 3, .int 5][k]? = some d) : ∃ p i j, d = .int p ∧ p ∈ prs3 ∧ (1 ≤ i ∧ i ≤ 5) ∧ (6 ≤ j ∧ j ≤ 10) ∧ P i = .tuple [.str "apart", .int p] ∧ P j = .tuple [.str "deep", .int p] ∧ prI i = p ∧ prI j = p := by
  match k, h with
  | 0, h => cases h; exact ⟨2, 1, 6, rfl, by decide, by decide, by decide, rfl, rfl, rfl, rfl⟩
  | 1, h => cases h; exact ⟨3, 2, 7, rfl, by decide, by decide, by decide, rfl, rfl, rfl, rfl⟩
  | 2, h => cases h; exact ⟨5, 3, 8, rfl, by decide, by decide, by decide, rfl, rfl, rfl, rfl⟩
  | k + 3, h => simp at h
theorem u4_op (o1 : OkR L1) (o2 : OkR L2) (q1 : Pos L1) (q2 : Pos L2) (l1 : L1.length ≤ 2) (l2 : L2.length ≤ 2) :
    ∃ y6 y14, U4 (En a1 a5 x6 x7 x8 x9 (some (lotD L1)) (some (lotD L2)) (some (.int (mlt L1))) (some (.int (mlt (L1 ++ L2)))) x14 x15 x16 x17) s = some (.nx, En a1 a5 y6 x7 x8 x9 (some (lotD L1)) (some (lotD L2)) (some (.int (mlt L1))) (some (.int (mlt (L1 ++ L2)))) y14 x15 x16 x17, s) := by
  obtain ⟨ρ1, s1, e1, hs, y6, y14, hρ⟩ := fLoop_ok (set := sName 6) (body := pB)
    (I := fun _ ρ s' => s' = s ∧ ∃ y6 y14, ρ = En a1 a5 y6 x7 x8 x9 (some (lotD L1)) (some (lotD L2)) (some (.int (mlt L1))) (some (.int (mlt (L1 ++ L2)))) y14 x15 x16 x17)
    [.int 2, .int 3, .int 5] 0 (En a1 a5 x6 x7 x8 x9 (some (lotD L1)) (some (lotD L2)) (some (.int (mlt L1))) (some (.int (mlt (L1 ++ L2)))) x14 x15 x16 x17) s ⟨rfl, _, _, rfl⟩ (fun k d ρ s' hk ⟨hs, y6, y14, hρ⟩ => by
      subst hs hρ
      obtain ⟨p, i, j, rfl, hp, hi, hj, pi, pj, ei, _⟩ := p_list hk
      obtain ⟨y, e⟩ := p_step (a1 := a1) (a5 := a5) (x7 := x7) (x8 := x8) (x9 := x9) (x14 := y14) (x15 := x15) (x16 := x16) (x17 := x17) (s := s') o1 o2 q1 q2 l1 l2 hp hi hj pi pj ei
      exact ⟨En a1 a5 (some (.int p)) x7 x8 x9 (some (lotD L1)) (some (lotD L2)) (some (.int (mlt L1))) (some (.int (mlt (L1 ++ L2)))) y14 x15 x16 x17, .nx, _, s', rfl, e, .inl rfl, rfl, _, _, rfl⟩)
  subst hs hρ
  refine ⟨y6, y14, ?_⟩
  unfold U4 fFor
  have t1 : (fSeqI (fTup (fCons (fC (.int 2)) (fCons (fC (.int 3)) (fCons (fC (.int 5)) (fNil)))))) (En a1 a5 x6 x7 x8 x9 (some (lotD L1)) (some (lotD L2)) (some (.int (mlt L1))) (some (.int (mlt (L1 ++ L2)))) x14 x15 x16 x17) s1 = some ([.int 2, .int 3, .int 5], s1) := rfl
  rw [t1, Option.bind_some]
  exact e1
theorem q_list {k : Nat} {d : D} (h : [PyData.int 2, .int 3][k]? = some d) : ∃ p j, d = .int p ∧ p ∈ prs3 ∧ (6 ≤ j ∧ j ≤ 10) ∧ P j = .tuple [.str "deep", .int p] ∧ prI j = p := by
  match k, h with
  | 0, h => cases h; exact ⟨2, 6, rfl, by decide, by decide, rfl, rfl⟩
  | 1, h => cases h; exact ⟨3, 7, rfl, by decide, by decide, rfl, rfl⟩
  | k + 2, h => simp at h
theorem ti_le {p : Int} (hp : p ∈ prs) (o1 : OkR L1) (o2 : OkR L2) (l1 : L1.length ≤ 2) (l2 : L2.length ≤ 2) (hz : mz L1 = true) : Ti p (L1 ++ L2) ≤ Ti p L1 ∧ 0 ≤ Ti p (L1 ++ L2) ∧ Ti p L1 ≤ 4 ∧ mz (L1 ++ L2) = true := by
  have hz2 : mz (L1 ++ L2) = true := by rw [mz_app, hz]; rfl
  have l12 : (L1 ++ L2).length ≤ 1000 := by rw [List.length_append]; omega
  obtain ⟨x, m, a, b, c⟩ := Ti_mem hp o1.ok (by omega) hz
  obtain ⟨_, t2, t3⟩ := Ti_ok hp (o1.app o2).ok l12 hz2
  obtain ⟨_, t4, _⟩ := Ti_ok hp o1.ok (by omega) hz
  have := t3 x (List.mem_append_left _ m) a b
  exact ⟨by omega, t2.1, t4.2, hz2⟩
theorem u12_op {due : D} (o1 : OkR L1) (o2 : OkR L2) (l1 : L1.length ≤ 2) (l2 : L2.length ≤ 2) (ad : dAdd (lotD L1) (lotD L2) = some (lotD (L1 ++ L2)))
    (hd : mz L1 = false → due = opt (if mz L2 = true then none else some 1)) {z2 : Bool} :
    ∃ y6 y9, U12 (En a1 a5 x6 x7 (some (.list [.bool (mz L1), .bool z2])) (some due) (some (lotD L1)) (some (lotD L2)) x12 x13 x14 x15 x16 x17) s = some (.nx, En a1 a5 y6 x7 (some (.list [.bool (mz L1), .bool z2])) y9 (some (lotD L1)) (some (lotD L2)) x12 x13 x14 x15 x16 x17, s) := by
  obtain ⟨ρ1, s1, e1, hs, y6, y9, hρ, _⟩ := fLoop_ok (set := sName 6) (body := qB)
    (I := fun _ ρ s' => s' = s ∧ ∃ y6 y9, ρ = En a1 a5 y6 x7 (some (.list [.bool (mz L1), .bool z2])) (some y9) (some (lotD L1)) (some (lotD L2)) x12 x13 x14 x15 x16 x17 ∧ (mz L1 = false → y9 = opt (if mz L2 = true then none else some 1)))
    [.int 2, .int 3] 0 (En a1 a5 x6 x7 (some (.list [.bool (mz L1), .bool z2])) (some due) (some (lotD L1)) (some (lotD L2)) x12 x13 x14 x15 x16 x17) s ⟨rfl, _, _, rfl, hd⟩ (fun k d ρ s' hk ⟨hs, y6, y9, hρ, hy⟩ => by
      subst hs hρ
      obtain ⟨p, j, rfl, hp, hj, pj, ej⟩ := q_list hk
      have dx := ix1 (i := j) (one := L1) (other := L2) (by omega) o1.ok o2.ok l1 l2
      unfold one1 at dx
      rw [pj] at dx
      cases z : mz L1 with
      | true =>
        obtain ⟨t1, t2, t3, t4⟩ := ti_le (prs3_mem hp) o1 o2 l1 l2 z
        rw [ip_deep hj z, ej] at dx
        have z1 := zp_ok hp o1 (by omega) z
        have z3 := zp_ok hp (o1.app o2) (by rw [List.length_append]; omega) t4
        have dv := pow_div hp t2 t1 t3
        have ps := pow_small hp (e := Ti p L1 - Ti p (L1 ++ L2)) (by omega)
        refine ⟨En a1 a5 (some (.int p)) x7 (some (.list [.bool true, .bool z2])) (some y9) (some (lotD L1)) (some (lotD L2)) x12 x13 x14 x15 x16 x17, .nx, En a1 a5 (some (.int p)) x7 (some (.list [.bool true, .bool z2])) (some (.int (p ^ (Ti p L1 - Ti p (L1 ++ L2)).toNat))) (some (lotD L1)) (some (lotD L2)) x12 x13 x14 x15 x16 x17, s', rfl, ?_, .inl rfl, rfl, some (.int p), .int (p ^ (Ti p L1 - Ti p (L1 ++ L2)).toNat), rfl, fun h => (nomatch h)⟩
        unfold qB
        rw [fSeq_nx (w1_yes ad z1 z3 dv)]
        exact w2_op dx (same1 ps.1 ps.2)
      | false =>
        have hy := hy z
        subst hy
        have e3 : ipX j L1 L2 = if mz L2 = true then none else some 1 := by
          cases z4 : mz L2 with
          | true => rw [if_pos rfl]; exact ip_no (by omega) z z4
          | false => rw [if_neg Bool.false_ne_true]; exact ip_deep1 hj z z4
        rw [e3] at dx
        refine ⟨En a1 a5 (some (.int p)) x7 (some (.list [.bool false, .bool z2])) (some (opt (if mz L2 = true then none else some 1))) (some (lotD L1)) (some (lotD L2)) x12 x13 x14 x15 x16 x17, .nx, En a1 a5 (some (.int p)) x7 (some (.list [.bool false, .bool z2])) (some (opt (if mz L2 = true then none else some 1))) (some (lotD L1)) (some (lotD L2)) x12 x13 x14 x15 x16 x17, s', rfl, ?_, .inl rfl, rfl, some (.int p), opt (if mz L2 = true then none else some 1), rfl, fun _ => rfl⟩
        unfold qB
        rw [fSeq_nx w1_no]
        refine w2_op dx ?_
        cases mz L2 with
        | true => exact sameN
        | false => exact same1 (by decide) (by decide))
  subst hs hρ
  refine ⟨y6, some y9, ?_⟩
  unfold U12 fFor
  have t1 : (fSeqI (fTup (fCons (fC (.int 2)) (fCons (fC (.int 3)) (fNil))))) (En a1 a5 x6 x7 (some (.list [.bool (mz L1), .bool z2])) (some due) (some (lotD L1)) (some (lotD L2)) x12 x13 x14 x15 x16 x17) s1 = some ([.int 2, .int 3], s1) := rfl
  rw [t1, Option.bind_some]
  exact e1
theorem div_ok {M N : Int} (h1 : M ∈ MS) (h2 : N ∈ MS) : dDiv (.int N) (.int M) = some (.int (N / M)) ∧ 0 ≤ N / M ∧ N / M ≤ 1000000 := by
  have a := ms_bnd h1
  have b := ms_bnd h2
  refine ⟨dDiv_ok (by omega) (by omega), Int.ediv_nonneg (by omega) (by omega), ?_⟩
  have := Int.ediv_le_self M (show 0 ≤ N by omega)
  omega
theorem turn_ok {b : Nat} (hs : SOk b s) (hb : b ≤ 10000) :
    ∃ (z : List (Option D)) (s' : Src), z.length = 12 ∧ tB (En a1 a5 x6 x7 x8 x9 x10 x11 x12 x13 x14 x15 x16 x17) s = some (.nx, none :: a1 :: some LN :: some EV :: none :: a5 :: z, s') ∧ SOk (b + 40) s' := by
  obtain ⟨L1, s1, d1, o1, l1, q1, k1⟩ := rows_drawn (z := false) hs (by omega)
  obtain ⟨L2, s2, d2, o2, l2, q2, k2⟩ := rows_drawn (z := false) k1 (by omega)
  have q1 := q1 rfl
  have q2 := q2 rfl
  have ad := add_lots (one := L1) (other := L2) l1 l2
  have m1 := mul_ok o1 q1 (by omega)
  have m2 := mul_ok (o1.app o2) (q1.app q2) (by rw [List.length_append]; omega)
  have n1 := (mlt_ms o1 q1).1
  have n2 := (mlt_ms (o1.app o2) (q1.app q2)).1
  obtain ⟨dv, dv0, dv1⟩ := div_ok n1 n2
  have lx := ix1 (i := 11) (by decide) o1.ok o2.ok l1 l2
  rw [ip_line q1 q2] at lx
  have lx : G_index_in [LN, lotD L1, lotD L2] = some (.int (mlt (L1 ++ L2) / mlt L1)) := lx
  obtain ⟨y6, y14, u4⟩ := u4_op (a1 := a1) (a5 := a5) (x6 := x6) (x7 := x7) (x8 := x8) (x9 := x9) (x14 := x14) (x15 := x15) (x16 := x16) (x17 := x17) (s := s2) o1 o2 q1 q2 l1 l2
  obtain ⟨v, s3, d3, v0, v4, k3⟩ := draw_ok (m := 400) (by decide) (by decide) k2 (by omega)
  have ho := holds_ln o1.ok q1 (x := v - 200) (by omega)
  have ho : G_lot_holds [LN, lotD L1, .tuple [.tuple [.tuple [.int (v - 200)]]]] = some (.bool (decide (mlt L1 ∣ v - 200))) := ho
  have mo := dMod_ok (i := v - 200) (j := mlt L1) (by have := ms_bnd n1; omega)
  have eq : dEq (.int ((v - 200) % mlt L1)) (.int 0) = some (.bool (decide (mlt L1 ∣ v - 200))) := by rw [eq0, mod_dvd]
  obtain ⟨R1, s4, d4, r1, t1, _, k4⟩ := rows_drawn (z := true) k3 (by omega)
  obtain ⟨R2, s5, d5, r2, t2, _, k5⟩ := rows_drawn (z := true) k4 (by omega)
  have ad2 := add_lots (one := R1) (other := R2) t1 t2
  have zz1 := mz_any r1
  have zz2 := mz_any (r1.app r2)
  have zq := zeq (mz R1) (mz (R1 ++ R2))
  have mzr := mz_app R1 R2
  have allx := ix1 (i := 0) (by decide) r1.ok r2.ok t1 t2
  have linx := ix1 (i := 11) (by decide) r1.ok r2.ok t1 t2
  have hz1 : ∀ {x15 x16 x17 y6 y7 y8 y9 y12 y13 y14 : Option D}, zE (En a1 a5 y6 y7 y8 y9 (some (lotD R1)) (some (lotD R2)) y12 y13 y14 (some (lotD R1)) x16 x17) s5 = some (.bool (mz R1), s5) := fun {x15 x16 x17 y6 y7 y8 y9 y12 y13 y14} => by
    have e := z_ok (a1 := a1) (a5 := a5) (x6 := y6) (x7 := y7) (x8 := y8) (x9 := y9) (x10 := some (lotD R1)) (x11 := some (lotD R2)) (x12 := y12) (x13 := y13) (x14 := y14) (x16 := x16) (x17 := x17) (s := s5) (l := R1) (by omega)
    rw [zz1] at e
    exact e
  have hz2 : ∀ {x16 x17 y6 y7 y8 y9 y12 y13 y14 : Option D}, zE (En a1 a5 y6 y7 y8 y9 (some (lotD R1)) (some (lotD R2)) y12 y13 y14 (some (lotD (R1 ++ R2))) x16 x17) s5 = some (.bool (mz (R1 ++ R2)), s5) := fun {x16 x17 y6 y7 y8 y9 y12 y13 y14} => by
    have e := z_ok (a1 := a1) (a5 := a5) (x6 := y6) (x7 := y7) (x8 := y8) (x9 := y9) (x10 := some (lotD R1)) (x11 := some (lotD R2)) (x12 := y12) (x13 := y13) (x14 := y14) (x16 := x16) (x17 := x17) (s := s5) (l := R1 ++ R2) (by rw [List.length_append]; omega)
    rw [zz2] at e
    exact e
  have tail : ∀ {y6 y7 y12 y13 y14 y15 y16 y17 : Option D} {due : D}, due = (if (!mz R1 && mz (R1 ++ R2)) = true then PyData.none else .int 1) → ∃ w6 w9, fSeq U10 (fSeq U11 U12) (En a1 a5 y6 y7 (some (.list [.bool (mz R1), .bool (mz (R1 ++ R2))])) (some due) (some (lotD R1)) (some (lotD R2)) y12 y13 y14 y15 y16 y17) s5 = some (.nx, En a1 a5 w6 y7 (some (.list [.bool (mz R1), .bool (mz (R1 ++ R2))])) w9 (some (lotD R1)) (some (lotD R2)) y12 y13 y14 y15 y16 y17, s5) := fun {y6 y7 y12 y13 y14 y15 y16 y17 due} hdue => by
    have hd2 : mz R1 = false → due = opt (if mz R2 = true then none else some 1) := fun z => by
      rw [hdue, mzr, z]
      cases mz R2 <;> rfl
    obtain ⟨w6, w9, u12⟩ := u12_op (a1 := a1) (a5 := a5) (x6 := y6) (x7 := y7) (x12 := y12) (x13 := y13) (x14 := y14) (x15 := y15) (x16 := y16) (x17 := y17) (s := s5) (due := due) (z2 := mz (R1 ++ R2)) r1 r2 t1 t2 ad2 hd2
    refine ⟨w6, w9, ?_⟩
    have u10 : U10 (En a1 a5 y6 y7 (some (.list [.bool (mz R1), .bool (mz (R1 ++ R2))])) (some due) (some (lotD R1)) (some (lotD R2)) y12 y13 y14 y15 y16 y17) s5 = some (.nx, En a1 a5 y6 y7 (some (.list [.bool (mz R1), .bool (mz (R1 ++ R2))])) (some due) (some (lotD R1)) (some (lotD R2)) y12 y13 y14 y15 y16 y17, s5) := by
      cases z : mz R1 with
      | true =>
        rw [z] at hdue
        have hdue : due = .int 1 := hdue
        subst hdue
        rw [ip_all (.inl z)] at allx
        rw [ip_line_z z] at linx
        exact u10_yes allx (same1 (by decide) (by decide)) linx
      | false =>
        cases z2 : mz R2 with
        | true =>
          have e := hd2 z
          rw [z2] at e
          have e : due = .none := e
          subst e
          rw [ip_no (by decide) z z2] at allx
          exact u10_no allx sameN
        | false =>
          have e := hd2 z
          rw [z2] at e
          have e : due = .int 1 := e
          subst e
          rw [ip_all (.inr z2)] at allx
          exact u10_no allx (same1 (by decide) (by decide))
    have u11 : U11 (En a1 a5 y6 y7 (some (.list [.bool (mz R1), .bool (mz (R1 ++ R2))])) (some due) (some (lotD R1)) (some (lotD R2)) y12 y13 y14 y15 y16 y17) s5 = some (.nx, En a1 a5 y6 y7 (some (.list [.bool (mz R1), .bool (mz (R1 ++ R2))])) (some due) (some (lotD R1)) (some (lotD R2)) y12 y13 y14 y15 y16 y17, s5) := by
      cases hb : (!mz R1 && mz (R1 ++ R2)) with
      | false =>
        rw [hb] at zq
        exact u11_no zq
      | true =>
        rw [hb] at zq
        have z : mz R1 = false := by
          cases z : mz R1 with
          | true => rw [z] at hb; cases hb
          | false => rfl
        have z2 : mz R2 = true := by
          rw [mzr, z] at hb
          exact hb
        rw [ip_no (by decide) z z2] at linx
        have ap := ix2 (i := 2) (by decide) r1.ok r2.ok t1 t2 (ip_no (by decide) z z2)
        exact u11_yes zq linx ap
    rw [fSeq_nx u10, fSeq_nx u11]
    exact u12
  obtain ⟨w6, w9, tl⟩ := tail (y6 := y6) (y7 := some (.int (v - 200))) (y12 := some (.int (mlt L1))) (y13 := some (.int (mlt (L1 ++ L2)))) (y14 := y14) (y15 := x15) (y16 := x16) (y17 := x17) rfl
  refine ⟨[w6, some (.int (v - 200)), some (.list [.bool (mz R1), .bool (mz (R1 ++ R2))]), w9, some (lotD R1), some (lotD R2), some (.int (mlt L1)), some (.int (mlt (L1 ++ L2))), y14, x15, x16, x17], s5, rfl, ?_, k5.mono (by omega)⟩
  unfold tB
  rw [fSeq_nx (u1_op d1 d2), fSeq_nx (u2_op ad m1 m2), fSeq_nx (u3_op lx dv (same2 dv0 dv1)), fSeq_nx u4, fSeq_nx (u5_op d3), fSeq_nx (u6_op ho mo eq (sameB _)), fSeq_nx (u7_op d4 d5), fSeq_nx (u8_op (z1 := mz R1) (z2 := mz (R1 ++ R2)) ad2 (hz1 (x15 := none)) hz2), fSeq_nx (u9_op zq)]
  exact tl
end
theorem law_body {ns : List Int} (hl : ns.length ≤ 63) : ∀ (k : Nat) (y : List (Option D)), k ≤ 3 → y.length = 13 → ∃ z : List (Option D), z.length = 13 ∧ fTurn 4 ns L__law_source (fVar 1) (fFor (fRng dRange1 (fCons (fC (.int 4)) (fNil))) (sName 5) tB) (none :: some (.int k) :: some LN :: some EV :: none :: y) (0, 0, 0) = some (.nx, none :: some (.int k) :: some LN :: some EV :: none :: z, (0, 0, 0)) := by
  intro k y hk hy
  obtain ⟨a, m, e1, hs⟩ := source_ok ns hl (k := k) (by omega) (by omega)
  obtain ⟨ρ1, s1, e2, hs1, z, hz, hρ⟩ := fLoop_ok (set := sName 5) (body := tB)
    (I := fun j ρ s => SOk (40 * min j 4) s ∧ ∃ z : List (Option D), z.length = 13 ∧ ρ = none :: some (.int k) :: some LN :: some EV :: none :: z)
    (rangeD 0 4) 0 (none :: some (.int k) :: some LN :: some EV :: none :: y) (a, m, 0) ⟨hs.mono (by omega), y, hy, rfl⟩ (fun j d ρ s hj ⟨hs, z, hz, hρ⟩ => by
      have hj4 : j < 4 := (List.getElem?_eq_some_iff.mp hj).1
      subst hρ
      match z, hz with
      | [y5, y6, y7, y8, y9, y10, y11, y12, y13, y14, y15, y16, y17], _ =>
        obtain ⟨z', s', hz', h1, h2⟩ := turn_ok hs (by omega) (a1 := some (.int k)) (a5 := some d) (x6 := y6) (x7 := y7) (x8 := y8) (x9 := y9) (x10 := y10) (x11 := y11) (x12 := y12) (x13 := y13) (x14 := y14) (x15 := y15) (x16 := y16) (x17 := y17)
        exact ⟨En (some (.int k)) (some d) y6 y7 y8 y9 y10 y11 y12 y13 y14 y15 y16 y17, .nx, _, s', rfl, h1, .inl rfl, h2.mono (by omega), some d :: z', by rw [List.length_cons, hz'], rfl⟩)
  subst hρ
  refine ⟨z, hz, ?_⟩
  have r4 : dRange1 [.int 4] = some (rangeD 0 4) := rfl
  have i2 : (none :: some (PyData.int k) :: some LN :: some EV :: none :: y : DL.Env)[4]? = some none := rfl
  unfold fTurn
  rw [i2]
  have v1 : fVar 1 (none :: some (PyData.int k) :: some LN :: some EV :: none :: y) (0, 0, 0) = some (.int k, (0, 0, 0)) := rfl
  simp only [v1, Option.bind_some, e1, fFor, fRng, fCons, fNil, fC, Option.map_some, r4, e2]
theorem plain (ns : List Int) (h1 : ns.length ≤ 63) (_ : ∀ z ∈ ns, Builtin.Int.intBits z ≤ 1048576) : L_law ns [] = some (.bool true) := by
  have hr : ∃ n : Nat, n ≤ 4 ∧ dRange1 [.int (if (if (ns.length : Int) < 3 then (ns.length : Int) else 3) > 1 then (if (ns.length : Int) < 3 then (ns.length : Int) else 3) else 1)] = some (rangeD 0 n) := by
    generalize hN : (if (if (ns.length : Int) < 3 then (ns.length : Int) else 3) > 1 then (if (ns.length : Int) < 3 then (ns.length : Int) else 3) else 1 : Int) = N
    have hb : 1 ≤ N ∧ N ≤ 4 := by
      rw [← hN]
      split <;> split <;> omega
    refine ⟨N.toNat, by omega, ?_⟩
    show (if -(2 ^ 62) ≤ N ∧ N < 2 ^ 62 then some (rangeD 0 N.toNat) else none) = _
    rw [if_pos ⟨by omega, by omega⟩]
  obtain ⟨n, hn, hr⟩ := hr
  obtain ⟨ρ1, s1, e2, hs1, x, z, hz, hρ⟩ := fLoop_ok (set := sName 1) (body := fTurn 4 ns L__law_source (fVar 1) (fFor (fRng dRange1 (fCons (fC (.int 4)) (fNil))) (sName 5) tB))
    (I := fun j ρ s => s = (0, 0, 0) ∧ ∃ (x : Option D) (z : List (Option D)), z.length = 13 ∧ ρ = none :: x :: some LN :: some EV :: none :: z)
    (rangeD 0 n) 0 (none :: none :: some LN :: some EV :: none :: List.replicate 13 none) (0, 0, 0) ⟨rfl, none, List.replicate 13 none, rfl, rfl⟩ (fun j d ρ s hj ⟨hs, x, z, hz, hρ⟩ => by
      have hj4 : j < n := by
        have := (List.getElem?_eq_some_iff.mp hj).1
        rw [rangeD_length] at this
        exact this
      rw [rangeD_get n 0 j hj4] at hj
      cases hj
      subst hs hρ
      rw [Int.zero_add]
      obtain ⟨z', hz', e⟩ := law_body h1 j z (by omega) hz
      exact ⟨none :: some (.int j) :: some LN :: some EV :: none :: z, .nx, _, _, rfl, e, .inl rfl, rfl, _, z', hz', rfl⟩)
  subst hs1 hρ
  have hmin : ∀ i j : Int, dMin2 [.int i, .int j] = some (.int (if j < i then j else i)) := fun _ _ => rfl
  have hmax : ∀ i j : Int, dMax2 [.int i, .int j] = some (.int (if j > i then j else i)) := fun _ _ => rfl
  have e0 : fAsg (sTup (sCons (sName 2) (sCons (sName 3) (sNil)))) (fTup (fCons (fTup (fCons (fTup (fCons (fTup (fCons (fC (.str "line")) (fNil))) (fCons (fC (.int 1)) (fNil)))) (fNil))) (fCons (fTup (fCons (fTup (fCons (fTup (fCons (fC (.str "all")) (fNil))) (fCons (fC (.int 1)) (fNil)))) (fNil))) (fNil)))) (none :: List.replicate 17 none) (0, 0, 0) = some (.nx, none :: none :: some LN :: some EV :: none :: List.replicate 13 none, (0, 0, 0)) := rfl
  simp only [L_law, fScrFn, m_law_eq, List.map_nil, List.nil_append, List.length_nil]
  rw [fSeq_nx e0]
  simp only [fSeq, fFor, fRng, fCall, fCons, fNil, fC, hmin, hmax, hr, Option.map_some, Option.bind_some, e2]
  simp [fRet, fC, isDict, fnOut]
end Law
open PySem PySem.W PySem.Calls PyProof.Rows in
theorem PySem.Challenge.cw_groupsayings_k44_whole_indexes_in_endles_holds : PySem.Challenge.rw_groupsayings_k44_whole_indexes_in_endles.Holds := by
  w_on; o_law
  refine HandSHeadRun.head_imp (r := OpenLaw.row PySem.Challenge.rw_groupsayings_k44_whole_indexes_in_endles) (q := view (OpenLaw.row PySem.Challenge.rw_groupsayings_k44_whole_indexes_in_endles).prog [0, 75]) (H := Law.hk) (ob := Law.ob) (M := 4000) (loose := Law.names) (d := HandSHeadRun.topDef (OpenLaw.row PySem.Challenge.rw_groupsayings_k44_whole_indexes_in_endles).prog 75) (kwd := []) Law.ob_eq
    Law.run (by kernel_rfl) (by kernel_rfl) (by kernel_rfl) (by rfl) (by first | assumption | decide +kernel) (by decide +kernel) ⟨rfl, rfl, rfl, rfl, rfl, by decide +kernel⟩ ?hw ?hc
  case hw => w_witness2
  case hc =>
    refine GX.walk_ofTG (l := PySem.Challenge.rw_groupsayings_k44_whole_indexes_in_endles) (n := 63) (k := 16) (x := "script") rfl (by decide) (by kernel_rfl) (GX.roomG_top.mono (by decide)) ?_
    intro w mg fa h Y G hmg0
    obtain ⟨K, KX, c⟩ := Y
    have hmg : mg ("law" : PySem.Str) = some (.ref fa) := by
      have e : (HandSHeadRun.topDef (OpenLaw.row PySem.Challenge.rw_groupsayings_k44_whole_indexes_in_endles).prog 75).name = ("law" : PySem.Str) := by kernel_rfl
      rw [← e]
      exact hmg0
    obtain ⟨fd, hb, hF⟩ := Law.facts (P := (PySem.Challenge.rw_groupsayings_k44_whole_indexes_in_endles).prog) (w := w) KX G hmg c
    refine ⟨K, Law.tf.map (He.cT K), fd, Law.L_law, KX, ⟨fun t ht => ?_, fun t ht => ?_, fun t ht => ?_, hb, Law.plain, hF⟩⟩
    all_goals
      obtain ⟨p, hp, rfl⟩ := List.mem_map.mp ht
      first
        | exact c.empty p hp
        | exact c.out p hp
        | exact PySem.W.codeHd_of_K KX (c.hd p hp)
