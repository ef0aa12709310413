import PyProof.Rows.All
import Wide.All
import OpenK.AllK
import Wide.FinOn
import HandS.ForMost
import HandS.IsInst
import HandS.Conv
import KE.DataMinMax
import KE.DataCmp
import KE.SortData
import KE.SortKeyHeap
import PyProof.ReprRoads
import HandS.SortKw
import HandS.Walk
import HandS.Flow
import HandS.Style
import HandS.WideBits
import PyProof.ReprLen
import HandS.CallRecv
import PySem.Challenge.RW_foldworld_k52_whole_rounds_listed
set_option Elab.async false
set_option linter.all false
set_option maxRecDepth 100000
set_option maxHeartbeats 4000000
/-! Rules over data that the bundles lack: text times number, tuples compared by >, max and sorted of lists of tuples, repr of data. -/
namespace FW
open PySem PySem.Spec PyProof.Rows L2
open PySem.W (alike dataLt dataLe maxD EachIs AllAlike Sortable)

section
variable {X : Cx}
/-- s * k -/
def rMulS : R2 := fun x y H Q => ∃ (z : Str) (k : Nat), x = .str z ∧ y = .int (k : Int) ∧ z.length ≤ 1000 ∧ k ≤ 1000 ∧ Q (.str (Txt.mul z (k : Int))) H
theorem mulS_ok {z : Str} {k : Nat} (hz : z.length ≤ 1000) (hk : k ≤ 1000) : MulOk z (k : Int) := by
  refine ⟨?_, fun h1 h2 hc => ?_, fun h1 h2 => ?_⟩
  · simp only [Bool.or_eq_false_iff, decide_eq_false_iff_not]
    omega
  · have hk0 : (0 : Int) < (k : Int) := by omega
    have e1 : (2 ^ 63 - 1 : Int) / (1000 : Int) ≤ (2 ^ 63 - 1 : Int) / (k : Int) := by
      apply Int.le_ediv_of_mul_le hk0
      have e2 : (2 ^ 63 - 1 : Int) / (1000 : Int) * (k : Int) ≤ (2 ^ 63 - 1 : Int) / (1000 : Int) * 1000 := Int.mul_le_mul_of_nonneg_left (by omega) (by decide)
      exact Int.le_trans e2 (by decide)
    have e3 : (2 ^ 63 - 1 : Int) / (1000 : Int) = 9223372036854775 := by decide
    omega
  · have e1 : z.length * ((k : Int)).toNat ≤ 1000 * 1000 := Nat.mul_le_mul hz (by omega)
    have e2 : ¬ z.length * ((k : Int)).toNat > sizeLine := by
      rw [sizeLine_eq]
      omega
    show decide (z.length * ((k : Int)).toNat > sizeLine) = false
    exact decide_eq_false e2
theorem op_mulS : OpR X (binaryOp .Mult) rMulS := by
  intro pins s σ H x y v u Q I rx ry h
  obtain ⟨z, k, rfl, rfl, hz, hk, q⟩ := h
  obtain ⟨t, rfl⟩ := rx
  obtain ⟨t', rfl⟩ := ry
  exact SB.mul (mulS_ok hz hk) fun t2 k2 => ⟨.str _, H, I.tok _, ⟨t2, rfl⟩, q⟩

/-- a > b of alike data -/
def rGtD (K : PySem.W.Frag) : R2 := fun x y H Q => ∃ d e, Dp K H x d ∧ Dp K H y e ∧ alike d e = true ∧ d ≠ .none ∧ d.depth ≤ 60 ∧ Q (.bl (dataLt e d)) H
theorem op_gtD {k : Nat} (hr : Room k X.A) : OpR X (compareOp .Gt) (rGtD X.K) := by
  intro pins s σ H x y v u Q I rx ry h
  obtain ⟨d, e, hd, he, ha, hn, hp, q⟩ := h
  obtain ⟨as, r1⟩ := Dp.reads I d x v hd rx
  obtain ⟨bs, r2⟩ := Dp.reads I e y u he ry
  have hu := hr.units
  exact PySem.W.gt_data r1 r2 ha hn (by have := Nat.min_le_left d.depth e.depth; omega) ⟨.bl _, H, I, rfl, q⟩

theorem dpAll_get {K : PySem.W.Frag} {H : Hp} : ∀ {vs : List V} {ds : List PyData} {i : Nat} {v : V}, DpAll K H vs ds → vs[i]? = some v → ∃ d, ds[i]? = some d ∧ Dp K H v d
  | _, _, _, _, .nil, h => by simp at h
  | _, _, 0, _, .cons a b, h => by
    have e := Option.some.inj h
    subst e
    exact ⟨_, rfl, a⟩
  | _, _, i + 1, v, .cons a b, h => dpAll_get (i := i) b h
/-- max(xs), xs a list of alike data: an item that reads as the greatest (the first of these) -/
def rMaxDt (K : PySem.W.Frag) : List V → Hp → VK → Prop := fun vs H Q => ∃ (a : Addr) (xs : List V) (d : PyData) (ds : List PyData), vs = [V.ref a] ∧ SqL K H a xs ∧ DpAll K H xs (d :: ds) ∧ PySem.W.AlikeAll (d :: ds) ∧ PyData.depthAll (d :: ds) ≤ 60 ∧
  ∀ (i : Nat) (v : V), xs[i]? = some v → (d :: ds)[i]? = some (maxD d ds) → Q v H
theorem cr_maxDt {k : Nat} (hr : Room k X.A) : CallR X (.builtin "max") (rMaxDt X.K) := by
  intro pins s σ H vs us Q I r h
  obtain ⟨a, xs, d, ds, rfl, hs, hd, ha, hp, q⟩ := h
  obtain ⟨its, rv, hl, hz⟩ := I.list hs
  rw [Vals.ref1 r]
  obtain ⟨as, hra⟩ := Dp.readsAll I (d :: ds) xs its hd rv
  have hu := hr.units
  refine PySem.W.max_list_data hr.hd hl.isList (by simpa using hra) ha (by omega) fun i v h' tk bs hv hR hk => ?_
  have hv' : its[i]? = some v := by simpa using hv
  have hi : i < xs.length := by
    rw [rv.length]
    exact (List.getElem?_eq_some_iff.mp hv').1
  obtain ⟨u, hu1, hu2⟩ := rv.get (List.getElem?_eq_getElem hi)
  rw [hv'] at hu1
  cases hu1
  obtain ⟨e, he, hde⟩ := dpAll_get hd (List.getElem?_eq_getElem hi)
  obtain ⟨cs, hr2⟩ := Dp.reads I e _ v hde hu2
  have hr3 : Reads h' v e cs := PyProof.Rows.Reads.keeps hk hr2
  have ee := (PySem.Reads.unique hr3 _ _ hR).1
  exact ⟨xs[i], H, I.kept hk, hu2, q i _ (List.getElem?_eq_getElem hi) (by rw [he, ee])⟩
end

section
variable {X : Cx} {β : Type}
theorem each_vals {R : V → β → Prop} : ∀ {out : List Value} {bs : List β}, EachIs (fun v b => ∃ x, RelV x v ∧ R x b) out bs → ∃ ys, Vals ys out ∧ EachIs R ys bs
  | _, _, .nil => ⟨[], .nil, .nil⟩
  | _, _, .cons ⟨x, r, h⟩ t => by
    obtain ⟨ys, r2, h2⟩ := each_vals t
    exact ⟨x :: ys, .cons r r2, .cons h h2⟩
theorem vals_each {R : V → β → Prop} : ∀ {xs : List V} {bs : List β} {its : List Value}, Vals xs its → EachIs R xs bs → EachIs (fun v b => ∃ x, RelV x v ∧ R x b) its bs
  | _, _, _, .nil, .nil => .nil
  | _, _, _, .cons r t, .cons h k => .cons ⟨_, r, h⟩ (vals_each t k)
/-- sorted(xs), xs a list of items that read as alike data (tuples, say): a new list, the items in their order -/
def rSortDt (K : PySem.W.Frag) (enc : β → PyData) : List V → Hp → VK → Prop := fun vs H Q => ∃ (a : Addr) (xs : List V) (bs : List β) (R : V → β → Prop), vs = [V.ref a] ∧ SqL K H a xs ∧ EachIs R xs bs ∧ (∀ x b, R x b → Dp K H x (enc b)) ∧
  AllAlike (bs.map enc) ∧ Sortable (bs.map enc) ∧ (∀ b, b ∈ bs → (enc b).depth ≤ 60) ∧ ∀ ys p, EachIs R ys (bs.mergeSort (dataLe false enc)) → H p = none → Q (.ref p) (upd H p (.lst ys))
theorem cr_sortDt {k : Nat} (hr : Room k X.A) (enc : β → PyData) : CallR X (.builtin "sorted") (rSortDt X.K enc) := by
  intro pins s σ H vs us Q I r h
  obtain ⟨a, xs, bs, R, rfl, hs, hE, hD, hA, hS, hp, q⟩ := h
  obtain ⟨its, rv, hl, hz⟩ := I.list hs
  rw [Vals.ref1 r]
  have hu := hr.units
  have e1 := vals_each rv hE
  have el : xs.length = bs.length := hE.length
  refine PySem.W.sorted_data (enc := enc) hl.isList e1 (e1.mono fun v b ⟨x, rx, hx⟩ => Dp.reads I (enc b) x v (hD x b hx) rx) hA hS (by rw [← el]; exact hz) (fun b hb => by have := hp b hb; omega) fun out ho hO => ?_
  obtain ⟨ys, ry, hY⟩ := each_vals hO
  obtain ⟨ep, he⟩ := sortedAll_at s.heap its out.toArray
  have hylen : ys.length = xs.length := by
    rw [ry.length, ho, el]
  exact ⟨.ref (s.heap.objs.size + 1), _, I.laid (t' := s.toks) (o := .lst ys) (fun _ _ => sortedAll_old) (Nat.le_succ _) ⟨by rw [hylen]; exact hz, out, ep, ry, he⟩, rfl, q ys _ hY (I.hok.fresh (Nat.le_succ _))⟩
end

section
variable {X : Cx}
/-- repr(x) of data, where no other repr is under way -/
def rReprD (K : PySem.W.Frag) : List V → Hp → VK → Prop := fun vs H Q => ∃ (a : Addr) (d : PyData), vs = [V.ref a] ∧ Dp K H (V.ref a) d ∧ d.showable = true ∧ d.hasDict = false ∧ d.depth ≤ 60 ∧ d.shown.length ≤ sizeLine ∧ Q (.str d.shown) H
theorem cr_reprD {k : Nat} (hr : Room k X.A) (hg : X.A.guards = some []) : CallR X (.builtin "repr") (rReprD X.K) := by
  intro pins s σ H vs us Q I r h
  obtain ⟨a, d, rfl, hd, hs, hn, hp, hz, q⟩ := h
  rw [Vals.ref1 r]
  obtain ⟨as, hR⟩ := Dp.reads I d (.ref a) (.ref a) hd rfl
  have hu := hr.units
  exact repr_of_reads' hR hs (PyData.noDict_hsm hn) hg (by omega) (fun _ _ e => e) (fun h' u tk hk => ⟨.str _, H, I.kept hk, ⟨u, rfl⟩, q⟩) hz
end
end FW
set_option Elab.async false
set_option linter.all false
set_option maxRecDepth 100000
set_option maxHeartbeats 4000000
/-! Promises of defs that are called where no repr is under way (repr of a new list must not meet itself). -/
namespace FW
open PySem PySem.Spec PyProof.Rows L2

structure FnG (P : Program) (w : World) (K : PySem.W.Frag) (mg : Str → Option Value) (base : Heap) (k : Nat) (f : Addr) (fd : FuncData) (ps : List Str) (sp : Sp) : Prop where
  len : ∀ vs H Q E, sp vs H Q E → vs.length = ps.length
  go : ∀ (A : Around) (outer : List Env) (s : Shared) (H : Hp) (args : Args) (us : List Value) (vs : List V) (Q : VK), A.guards = some [] → Room k A → Env0 P w K mg base A outer s H → BindsTo s fd args (ps.zip us) → Vals vs us → sp vs H Q E0 →
    codeAny (model P w) A (.call (.ref f) args) (CR CX0 outer P w H s Q E0) s
section
variable {P : Program} {w : World} {K : PySem.W.Frag} {mg : Str → Option Value} {base : Heap}
theorem FnG.up {j k : Nat} {f : Addr} {fd : FuncData} {ps : List Str} {sp : Sp} (F : FnG P w K mg base j f fd ps sp) (h : j ≤ k) : FnG P w K mg base k f fd ps sp :=
  ⟨F.len, fun A outer s H args us vs Q hg hr => F.go A outer s H args us vs Q hg (hr.mono h)⟩
/-- the body of a def, read where no repr is under way -/
theorem okG {x qual : Str} {st : Stmt} {f : Addr} {fd : FuncData} {N ps : List Str} {k : Nat} {sp : Sp} (F : Fun K x qual st f fd) (S : FnScope N ps (defScope st)) (len : ∀ vs H Q E, sp vs H Q E → vs.length = ps.length)
    (body : ∀ (cdv : Value) (A : Around) (outer : List Env) (s : Shared) (H : Hp) (vs : List V) (Q : VK), (A.deeper (envOfC qual (defScope st) s.heap.objs.size f cdv)).guards = some [] →
      Room k (A.deeper (envOfC qual (defScope st) s.heap.objs.size f cdv)) → sp vs H Q E0 →
      ∃ t, PSs (cxOf CX0 P w K mg base N qual (defScope st) f cdv A outer s H E0).nox (defBody st) t ∧ t { nx := fun _ H' => Q .non H', rt := Q } (start N vs) H) : FnG P w K mg base (k + 1) f fd ps sp := by
  obtain ⟨oc, od, kV, doc, pm, an, cdv, ct, osl, rfl, lk, hcd⟩ := F.ex
  refine ⟨len, fun A outer s H args us vs Q hg hr env hb rv hsp => ?_⟩
  have hl := len _ _ _ _ hsp
  have inK : K.In s.heap := env.mod.kin.keeps fun b o e => (env.bs b o e).1
  have noL : s.heap.NoLimit := env.mod.nolimit.keeps fun b o e => (env.bs b o e).1
  have kinds : ∀ y ∈ ps.zip us, (defScope st).names.lookup y.1 = some .local ∨ ((defScope st).names.lookup y.1 = some .cell ∧ ((cellsFrom (s.heap.objs.size + 1) (defScope st).names []).lookup y.1).isSome = true) := by
    rintro ⟨n, v⟩ hy
    rcases S.par n (List.of_mem_zip hy).1 with q | q
    · exact Or.inl q
    · exact Or.inr ⟨q, PySem.W.cellsFrom_some _ _ _ (Or.inl q)⟩
  refine codeAny_call_function hr.depth (inK _ _ lk) rfl S.co S.gen rfl (PySem.W.codeRec_of inK hcd) (hb _ _ _ _ ?_)
  refine wpAny_newFunctionEnv_cells S.kind kinds fun env1 he s1 x => ?_
  subst he
  refine ⟨noL.keeps x.toInCall.keep, codeAny_func ?_⟩
  obtain ⟨t, ht, hq⟩ := body cdv A outer s H vs Q hg (hr.deeper _) hsp
  have J : Inv (cxOf CX0 P w K mg base N qual (defScope st) f cdv A outer s H E0) [] (start N vs) H s1 := inv_start S hr.hd env hl rv x
  refine wpAny_mono (ht.nox.run [] s1 (start N vs) H _ J hq) (fun fl s2 hs => ?_) fun e s2 hs => hs
  cases fl with
  | ret u =>
    obtain ⟨v, τ, G, I2, r2, q2⟩ := hs
    exact ⟨v, G, I2.os, I2.bare, I2.base, I2.hok, r2, q2⟩
  | next =>
    obtain ⟨τ, G, I2, q2⟩ := hs
    exact ⟨V.non, G, I2.os, I2.bare, I2.base, I2.hok, (rfl : RelV V.non Value.none), q2⟩
  | brk =>
    obtain ⟨_, _, _, q2⟩ := hs
    exact False.elim q2
  | cont =>
    obtain ⟨_, _, _, q2⟩ := hs
    exact False.elim q2
end
section
variable {X : Cx} {k : Nat} {f : Addr} {fd : FuncData} {ps : List Str} {sp : Sp} {x : Str} {p pos : Pos} {e : Expr} {es : List Expr} {t : TA}
theorem pe_callG (F : FnG X.prog X.w X.K X.mg X.base k f fd ps sp) (hgu : X.A.guards = some []) (hr : Room k X.A) (hg : Gl X x) (hm : X.mg x = some (.ref f)) (hk : PySem.W.keepIn X.K (.ref f) = true) (hb : Binds X.K fd ps [])
    (ha : PA X (e :: es) t) (hdb : (x == ("__debug__" : Str)) = false := by decide) (he : starEach (e :: es) X.env = (false, eval e X.env) :: starEach es X.env := by rfl) (hpl : (backTo pos (starEach es X.env)).any (·.1) = false := by rfl) :
    PE X (.Call (.Name x p) (e :: es) [] pos) (fun σ H Q => t σ H fun vs H1 => sp vs H1 Q E0) := by
  refine ⟨fun pins s σ H Q I h => ?_⟩
  refine wpAny_Call_Name_kw (ld_glob I hg hm ?_ hdb)
  refine PySem.W.callWith_K (h₀ := X.base) I.ok.mod.kin hk (thn (ha.run pos pins s σ H _ I h) fun us s1 ⟨vs, G, I1, r, q⟩ => ⟨I1.kIn, ?_⟩) he hpl
  have hl : (us ++ []).length = ps.length := by rw [List.append_nil, ← r.length]; exact F.len _ _ _ _ q
  have hb1 := hb s1 us I1.kIn hl
  rw [List.append_nil] at hb1
  refine wpAny_call (codeAny_mono (F.go X.A X.stack s1 G ⟨us, []⟩ us vs Q hgu hr I1.env0 hb1 r q) fun rr s2 hq => ?_)
  cases rr with
  | error e => exact False.elim hq
  | ok fl =>
    cases fl with
    | ret u => exact I1.after hq
    | next => exact False.elim hq
    | brk => exact False.elim hq
    | cont => exact False.elim hq
end

/-! ### the law's own call -/
theorem guards_caller : callerA.guards = some [] := rfl
theorem lawG {P : Program} {w : World} {K : PySem.W.Frag} {mg mb : Str → Option Value} {k : Nat} {fa a : Addr} {fd : FuncData} {x : Str} {sp : Sp} {s₁ : Shared} {vs : List Value} {ns : List Int}
    (KX : K.In s₁.heap) (nG : s₁.heap.Ns mainGlobals mg) (nB : s₁.heap.Ns builtinsNs mb) (bB : ∀ x : Str, x ≠ "__name__" → mb x = bootBuiltins x) (lim : s₁.heap.NoLimit) (gn : s₁.gens = #[])
    (ha : s₁.heap.get? a = some { cls := .type "list", data := .seq vs.toArray }) (hi : IntsAre vs ns) (hl : ns.length ≤ sizeLine) (hr : Room k callerA)
    (F : ∀ base : Heap, K.In base → base.Ns mainGlobals mg → FnG P w K mg base k fa fd [x] sp) (bind : ∀ (s : Shared) (u : Value), BindsTo s fd ⟨[u], []⟩ [(x, u)])
    (hsp : ∀ H : Hp, Only H → SqL K H a (ns.map V.int) → sp [.ref a] H (fun v _ => v = .bl true) E0) :
    codeAny (model P w) callerA (.call (.ref fa) ⟨[.ref a], []⟩) (fun r s' => r = .ok (.ret (.bool true)) ∧ OldK s₁.heap s'.heap ∧ s'.os = s₁.os ∧ AllBare s'.gens) s₁ := by
  have rv := vals_ints hi
  have lenV := hi.length
  have main : ∀ H : Hp, Only H → SqL K H a (ns.map V.int) → HOk P w H s₁.heap → (∀ b, H b ≠ none → b = a) → (H a ≠ none → K.lookup a = none) →
      codeAny (model P w) callerA (.call (.ref fa) ⟨[.ref a], []⟩) (fun r s' => r = .ok (.ret (.bool true)) ∧ OldK s₁.heap s'.heap ∧ s'.os = s₁.os ∧ AllBare s'.gens) s₁ := by
    intro H hO hS ok only hK
    have keepB : ∀ {b : Addr} {o : Obj}, s₁.heap.get? b = some o → H b = none → (hidT s₁.heap H).get? b = some o := fun e n => hidT_get e n
    have isNone : ∀ {b : Addr}, b ≠ a → H b = none := fun {b} hb => by
      cases q : H b with
      | none => rfl
      | some u => exact absurd (only b (by rw [q]; simp)) hb
    have dictNone : ∀ {b : Addr} {o : Obj} {es : Array DictEntry} {ep : Nat}, s₁.heap.get? b = some o → o.data = .dict es ep → H b = none := fun {b o es ep} e d => by
      refine isNone fun hb => ?_
      subst hb
      rw [ha] at e
      cases e
      have d1 : Data.seq vs.toArray _ = Data.dict es ep := d
      cases d1
    have nsB : ∀ {b : Addr} {m : Str → Option Value}, s₁.heap.Ns b m → (hidT s₁.heap H).Ns b m := fun {b m} ⟨o, es, ep, e, d, r⟩ => ⟨o, es, ep, keepB e (dictNone e d), d, r⟩
    have KB : K.In (hidT s₁.heap H) := fun b o e => keepB (KX b o e) (by
      cases q : H b with
      | none => rfl
      | some u =>
        have eb : b = a := only b (by rw [q]; simp)
        subst eb
        rw [hK (by rw [q]; simp)] at e
        cases e)
    have MB : Mod K mg (hidT s₁.heap H) := ⟨KB, nsB nG, ⟨mb, nsB nB, bB⟩, let ⟨mc, h1, h2⟩ := lim; ⟨mc, nsB h1, h2⟩⟩
    have env : Env0 P w K mg (hidT s₁.heap H) callerA [] s₁ H := ⟨rfl, MB, fun b o e => of_hidT e, Nat.le_of_eq (hidT_size _ _), trivial, fun b hb => absurd (show b ∈ ([] : List Addr) from hb) (by simp), ok, .of_eq gn⟩
    refine codeAny_mono ((F _ KB (nsB nG)).go callerA [] s₁ H ⟨[.ref a], []⟩ [.ref a] [.ref a] _ guards_caller hr env (bind s₁ (.ref a)) (.cons rfl .nil) (hsp H hO hS)) fun r s2 h => ?_
    cases r with
    | error e => exact False.elim h
    | ok fl =>
      cases fl with
      | next => exact False.elim h
      | brk => exact False.elim h
      | cont => exact False.elim h
      | ret u =>
        obtain ⟨v, H2, os, bare, un, ok2, r2, q⟩ := h
        have q2 : v = .bl true := q
        subst q2
        obtain rfl : u = Value.bool true := r2
        refine ⟨rfl, OldK.of_keep fun b o e => ?_, os, bare⟩
        cases q3 : H b with
        | none => exact un.keep b o e q3 (by intro z; exact absurd (show b ∈ ([] : List Addr) from z) (by simp)) (by simp)
        | some u =>
          rcases hO b with z | ⟨ob, xs, z⟩
          · rw [q3] at z
            cases z
          · have z2 := un.frzs b ob _ z
            obtain ⟨e1, _⟩ := ok b _ z
            obtain ⟨e2, _⟩ := ok2 b _ z2
            rw [e] at e1
            cases e1
            exact e2
  cases hk : K.lookup a with
  | some o =>
    have e := KX a o hk
    rw [ha] at e
    cases e
    refine main (fun _ => none) (fun _ => .inl rfl) (.inr ⟨_, vs.toArray, _, hk, rfl, rfl, rfl, by rw [List.size_toArray, lenV]; exact hl, by simpa using rv⟩) (fun b u z => ?_) (fun b z => absurd rfl z) fun z => absurd rfl z
    have z1 : (none : Option HO) = some u := z
    cases z1
  | none =>
    refine main (fun b => if b = a then some (.frz { cls := .type "list", data := .seq vs.toArray } (.lst (ns.map V.int))) else none) (fun b => ?_) (.inl (.inr ⟨{ cls := .type "list", data := .seq vs.toArray }, if_pos rfl⟩)) (fun b u z => ?_) (fun b z => ?_) fun _ => hk
    · by_cases hb : b = a
      · exact .inr ⟨_, _, if_pos hb⟩
      · exact .inl (if_neg hb)
    · by_cases hb : b = a
      · have z1 := (if_pos hb).symm.trans z
        cases z1
        subst hb
        exact ⟨ha, by rw [List.length_map]; exact hl, vs, _, rv, ha⟩
      · have z1 := (if_neg hb).symm.trans z
        cases z1
    · by_cases hb : b = a
      · exact hb
      · exact absurd (if_neg hb) z
/-- the goal that the head leaves, from the law's promise -/
theorem walkG {l : PySem.W.OpenLaw} {n k : Nat} {q : Program} {loose : List Str} {XP : (Str → Option Value) → Heap → Prop} {YP : World → Heap → Prop} {d : DefRec} {K : Params → PySem.W.Frag} {sp : PySem.W.Frag → Sp} {x : Str}
    (hn : l.most = some n) (hn2 : n ≤ sizeLine) (hdf : d.params.defaults = []) (hr : Room k callerA) (hY : ∀ (w : World) (h : Heap), YP w h → (K w.params).In h)
    (F : ∀ (w : World) (mg : Str → Option Value) (fa : Addr) (h : Heap), (K w.params).In h → h.Ns mainGlobals mg → mg d.name = some (.ref fa) →
      ∃ fd : FuncData, (∀ (s : Shared) (u : Value), BindsTo s fd ⟨[u], []⟩ [(x, u)]) ∧ ∀ base : Heap, (K w.params).In base → base.Ns mainGlobals mg → FnG l.prog w (K w.params) mg base k fa fd [x] (sp (K w.params)))
    (hsp : ∀ (K : PySem.W.Frag) (H : Hp) (a : Addr) (ns : List Int), ns.length ≤ n → Only H → SqL K H a (ns.map V.int) → sp K [.ref a] H (fun v _ => v = .bl true) E0) :
    PySem.W.WalkO q loose XP YP l.row.toRowW d [] (fun f vs => PySem.call f vs) := by
  refine Att.attach_call hn hdf fun w s₀ s₁ mg mb fa o pm cd doc a vs ns G Y ho hd hcd hmg hobj hints hlen hg => ?_
  have KX := hY w _ Y
  obtain ⟨fd, hb, hF⟩ := F w mg fa _ KX G.T.g hmg
  exact lawG KX G.T.g G.T.b G.T.builtins G.T.nolimit hg hobj hints (Nat.le_trans hlen hn2) hr hF hb fun H hO hS => hsp _ H a ns hlen hO hS
end FW
set_option Elab.async false
set_option linter.all false
set_option maxRecDepth 100000
set_option maxHeartbeats 8000000
/-! sorted(xs, key=f), f a def of the text whose answer is a new tuple of ints. -/
namespace FW
open PySem PySem.Spec PyProof.Rows L2
open PySem.W (alike dataLt dataLe EachIs AllAlike Sortable KeepsBut)

section
variable {X : Cx} {pins : List (Addr × Obj)} {σ : L2.St} {H H' : Hp} {s : Shared} {h' : Heap}
theorem pins_sub {ps qs : List (Addr × Obj)} (I : Inv X ps σ H s) (h : ∀ p ∈ qs, p ∈ ps) : Inv X qs σ H s :=
  I.pins_of fun p hp => I.pin p (List.mem_append_right _ (h p hp))
theorem fresh_pin (I : Inv X pins σ H s) {b : Addr} (hb : s.heap.objs.size ≤ b) : H b = none ∧ b ≠ X.env.locals ∧ b ∉ X.fs ∧ X.s_0.heap.objs.size ≤ b ∧ (∀ x c, X.env.cells.lookup x = some c → c ≠ b) ∧ ∀ p ∈ X.pn ++ pins, p.1 ≠ b := by
  refine ⟨I.hok.fresh hb, Ne.symm (Nat.ne_of_lt (Nat.lt_of_lt_of_le I.lt hb)), I.nofs hb, Nat.le_trans I.sz hb, fun x c e => ?_, fun p hp => ?_⟩
  · obtain ⟨v, o, ho, _⟩ := I.cell x c e
    exact Nat.ne_of_lt (Nat.lt_of_lt_of_le (Heap.lt_size ho) hb)
  · exact Nat.ne_of_lt (Nat.lt_of_lt_of_le (Heap.lt_size (I.pin p hp).1) hb)
/-- the call of a def from within a built-in's own steps -/
theorem run_in {CX : CXT} {k : Nat} {f : Addr} {fd : FuncData} {ps : List Str} {sp : Sp} {Q : VK} {us : List Value} {vs : List V} (F : FnOk X.prog X.w X.K X.mg X.base CX0 k f fd ps sp) (hr : Room (k + 2) X.A) (hb : Binds X.K fd ps [])
    (I : Inv X pins σ H s) (r : Vals vs us) (h : sp vs H Q E0) : wpAny (model X.prog X.w) X.A.in1.in1 (call (.ref f) us) (EP X pins σ Q) (fun _ _ => False) s := by
  have hl : (us ++ []).length = ps.length := by rw [List.append_nil, ← r.length]; exact F.len _ _ _ _ h
  have hb1 := hb s us I.kIn hl
  rw [List.append_nil] at hb1
  refine wpAny_call (codeAny_mono (F.run X.A.in1.in1 X.stack s H ⟨us, []⟩ us vs Q E0 hr.in1.in1 I.env0.in1.in1 hb1 r h) fun rr s2 hq => ?_)
  cases rr with
  | error e => exact False.elim hq
  | ok fl =>
    cases fl with
    | ret u => exact I.after hq
    | next => exact False.elim hq
    | brk => exact False.elim hq
    | cont => exact False.elim hq

variable {β : Type}
def kTup (key : β → List Int) (b : β) : PyData := .tuple ((key b).map .int)
theorem kTup_alike (key : β → List Int) (a b : β) : alike (kTup key a) (kTup key b) = true := by
  unfold kTup
  simp only [alike]
  exact PySem.W.alike_ints _ _
theorem kTup_depth (key : β → List Int) (b : β) : (kTup key b).depth = 1 := by
  unfold kTup
  simp only [PyData.depth]
  rw [PySem.W.depth_ints]
theorem reads_tupI (I : Inv X pins σ H s) {p : Addr} {ns : List Int} (h : H p = some (.tup (ns.map V.int))) : ∃ as, Reads s.heap (.ref p) (.tuple (ns.map .int)) as := by
  refine Dp.reads I (.tuple (ns.map .int)) (.ref p) (.ref p) (.tup (SqT.of h) ?_) rfl
  have go : ∀ l : List Int, DpAll X.K H (l.map V.int) (l.map PyData.int) := fun l => by
    induction l with
    | nil => exact .nil
    | cons i l ih => exact .cons (.int i) ih
  exact go ns

/-- the keys that f gives, in the heap -/
def rSortKey (K : PySem.W.Frag) (fK : Addr) (sp : Sp) (item : β → V) (key : β → List Int) : List V → List V → Hp → VK → Prop := fun vs zs H Q => ∃ (a : Addr) (bs : List β), vs = [V.ref a] ∧ zs = [V.ref fK] ∧ SqL K H a (bs.map item) ∧
  (∀ b ∈ bs, key b ≠ []) ∧ (∀ b ∈ bs, ∀ (H1 : Hp) (Q1 : VK), Same H H1 → (∀ p H2, Same H1 H2 → H2 p = some (.tup ((key b).map V.int)) → Q1 (.ref p) H2) → sp [item b] H1 Q1 E0) ∧
  ∀ p H', Same H H' → H p = none → H' p = some (.lst ((bs.mergeSort (dataLe false (kTup key))).map item)) → Q (.ref p) H'
theorem cr_sortKey {k : Nat} {fK : Addr} {fd : FuncData} {ps : List Str} {sp : Sp} (F : FnOk X.prog X.w X.K X.mg X.base CX0 k fK fd ps sp) (hr : Room (k + 2) X.A) (hb : Binds X.K fd ps []) (item : β → V) (key : β → List Int) :
    CallRK X (.builtin "sorted") [Str.ofString "key"] (rSortKey X.K fK sp item key) := by
  intro pins s σ H vs zs us ws Q I r rz h
  obtain ⟨a, bs, rfl, rfl, hs, hne, hsp, q⟩ := h
  obtain ⟨its, rv, hl, hz⟩ := I.list hs
  rw [Vals.ref1 r, Vals.ref1 rz]
  have hlen : its.length = bs.length := by rw [← rv.length, List.length_map]
  have hZ : its.length ≤ sizeLine := by rw [← rv.length]; exact hz
  refine PySem.W.sorted_of_sort hl.isList hZ (ksk_s1 _ _) (fun _ => ksk_l1 _ _) fun E' => ?_
  show wpAny _ _ (ksk_tree (s.heap.objs.size + 1) (.ref fK) false) _ _ _
  unfold ksk_tree
  have ho := PySem.W.copyHeap_at s.heap its
  obtain ⟨e1, ho1⟩ : ∃ e1, ((PySem.W.copyHeap s.heap its).update (s.heap.objs.size + 1) (Obj.mapSeq fun _ => (#[] : Array Value))).get? (s.heap.objs.size + 1) = some (seqObj "list" #[] e1) := ⟨_, get?_update_seq ho fun _ => #[]⟩
  refine wpAny_bind (listItems_at ho rfl ?_)
  refine wpAny_bind (listUpdate_at ho rfl ?_ (by rw [List.size_toArray]; exact hZ) (Nat.zero_le _))
  refine wpAny_bind (seqEpoch_at ho1 rfl ?_)
  refine wpAny_bind (wpAny_newTuple ?_ (by show its.length ≤ _; exact hZ))
  refine wpAny_bind (wpAny_newList ?_ (Nat.zero_le _))
  refine wpAny_holding ?_
  have hsz2 : ((PySem.W.copyHeap s.heap its).update (s.heap.objs.size + 1) (Obj.mapSeq fun _ => (#[] : Array Value))).objs.size = (PySem.W.copyHeap s.heap its).objs.size := Heap.size_update _ _ _
  have hszc : s.heap.objs.size + 1 < (PySem.W.copyHeap s.heap its).objs.size := Heap.lt_size ho
  have hkS : (((PySem.W.copyHeap s.heap its).update (s.heap.objs.size + 1) (Obj.mapSeq fun _ => (#[] : Array Value))).push (seqObj "tuple" its.toArray 0)).objs.size = (PySem.W.copyHeap s.heap its).objs.size + 1 := by rw [size_push', Heap.size_update]
  -- the state in which the keys are asked
  generalize hgA : s.heap.objs.size + 1 = A0 at *
  show wpAny _ _ (ksk_rest A0 (.ref fK) false its.toArray e1 (.ref (((PySem.W.copyHeap s.heap its).update A0 (Obj.mapSeq fun _ => (#[] : Array Value))).push (seqObj "tuple" its.toArray 0)).objs.size)) _ _ { s with heap := ((PySem.W.copyHeap s.heap its).update A0 (Obj.mapSeq fun _ => (#[] : Array Value))).push (seqObj "tuple" its.toArray 0) |>.push (seqObj "list" #[] 0) }
  have hkN : A0 < (((PySem.W.copyHeap s.heap its).update A0 (Obj.mapSeq fun _ => (#[] : Array Value))).push (seqObj "tuple" its.toArray 0)).objs.size := by rw [hkS]; omega
  have atK : ((((PySem.W.copyHeap s.heap its).update A0 (Obj.mapSeq fun _ => (#[] : Array Value))).push (seqObj "tuple" its.toArray 0)).push (seqObj "list" #[] 0)).get? (((PySem.W.copyHeap s.heap its).update A0 (Obj.mapSeq fun _ => (#[] : Array Value))).push (seqObj "tuple" its.toArray 0)).objs.size = some (seqObj "list" #[] 0) := Heap.get?_push_size _ rfl
  have atA : ((((PySem.W.copyHeap s.heap its).update A0 (Obj.mapSeq fun _ => (#[] : Array Value))).push (seqObj "tuple" its.toArray 0)).push (seqObj "list" #[] 0)).get? A0 = some (seqObj "list" #[] e1) := Heap.get?_push_of_some _ (Heap.get?_push_of_some _ ho1)
  have old : ∀ b o, s.heap.get? b = some o → ((((PySem.W.copyHeap s.heap its).update A0 (Obj.mapSeq fun _ => (#[] : Array Value))).push (seqObj "tuple" its.toArray 0)).push (seqObj "list" #[] 0)).get? b = some o := fun b o e => by
    have q1 := PySem.W.sorting_copy_old (vs := its) e
    rw [hgA] at q1
    exact q1
  have hA0 : s.heap.objs.size ≤ A0 := by omega
  have hK0 : s.heap.objs.size ≤ (((PySem.W.copyHeap s.heap its).update A0 (Obj.mapSeq fun _ => (#[] : Array Value))).push (seqObj "tuple" its.toArray 0)).objs.size := by omega
  revert atK atA old hkN hK0
  generalize (((PySem.W.copyHeap s.heap its).update A0 (Obj.mapSeq fun _ => (#[] : Array Value))).push (seqObj "tuple" its.toArray 0)).objs.size = kS
  generalize ((((PySem.W.copyHeap s.heap its).update A0 (Obj.mapSeq fun _ => (#[] : Array Value))).push (seqObj "tuple" its.toArray 0)).push (seqObj "list" #[] 0)) = g0
  intro hkN atK atA old hK0
  obtain ⟨nA1, nA2, nA3, nA4, nA5, nA6⟩ := fresh_pin I hA0
  obtain ⟨nK1, nK2, nK3, nK4, nK5, nK6⟩ := fresh_pin I hK0
  have hka : kS ≠ A0 := by omega
  have noc : ∀ (xs : Array Value) (n : Nat) (v : Option Value), (seqObj "list" xs n).data ≠ .cell v := fun xs n v e => by
    have e' : Data.seq xs n = Data.cell v := e
    cases e'
  have J0 : Inv X ((A0, seqObj "list" #[] e1) :: (kS, seqObj "list" #[] 0) :: pins) σ H { s with heap := g0 } := by
    refine (I.kept (t' := s.toks) old).pins_of fun p hp => ?_
    rcases List.mem_cons.mp hp with rfl | hp
    · exact ⟨atA, nA1, nA2, nA3, noc _ _⟩
    rcases List.mem_cons.mp hp with rfl | hp
    · exact ⟨atK, nK1, nK2, nK3, noc _ _⟩
    · obtain ⟨p1, p2⟩ := I.pin p (List.mem_append_right _ hp)
      exact ⟨old _ _ p1, p2⟩
  clear ho ho1 hsz2 hkS hszc atK atA old
  unfold ksk_rest
  refine wpAny_bind (wpAny_rule ?_)
  first
    | rw [List.forIn_toArray]
    | (rw [← Array.forIn_toList]; simp only [List.toList_toArray])
    | rw [← Array.forIn_toList]
  refine wpAny_bind (ksk_fold (fun i s1 => ∃ (kA : Array Value) (e : Nat) (H1 : Hp), Inv X ((A0, seqObj "list" #[] e1) :: (kS, seqObj "list" kA e) :: pins) σ H1 s1 ∧ Same H H1 ∧
      EachIs (fun v b => ∃ p, v = Value.ref p ∧ H1 p = some (.tup ((key b).map V.int))) kA.toList (bs.take i)) its 0 _ ⟨#[], 0, H, J0, Same.refl H, by rw [List.take_zero]; exact .nil⟩ ?step ?done)
  case step =>
    rintro j x s1 hx ⟨kA, e, H1, J, sm, hk⟩
    simp only [Nat.zero_add] at hk ⊢
    have hj : j < its.length := (List.getElem?_eq_some_iff.mp hx).1
    have hjb : j < bs.length := by omega
    have hbj : bs[j]? = some bs[j] := List.getElem?_eq_getElem hjb
    have hv : ((bs.map item))[j]? = some (item bs[j]) := by rw [List.getElem?_map, hbj]; rfl
    obtain ⟨u, hu1, hu2⟩ := rv.get hv
    rw [hx] at hu1
    cases hu1
    have hz1 : kA.size ≤ its.length := by
      have h1 := hk.length
      rw [Array.length_toList, List.length_take] at h1
      omega
    refine wpAny_bind (wpAny_attempt (wpAny_mono (run_in (CX := CX0) (Q := fun v H2 => ∃ p, v = V.ref p ∧ Same H1 H2 ∧ H2 p = some (.tup ((key bs[j]).map V.int))) F hr hb J (.cons hu2 .nil) (hsp bs[j] (List.getElem_mem hjb) H1 _ sm fun p H2 s2 hp => ⟨p, rfl, s2, hp⟩)) (fun v s2 he => ?_) fun _ _ hF => hF.elim))
    obtain ⟨_, H2, J2, r2, p, rfl, sm2, hp⟩ := he
    obtain rfl : v = Value.ref p := r2
    try dsimp only
    have pk := J2.pin (kS, seqObj "list" kA e) (List.mem_append_right _ (.tail _ (.head _)))
    have nk2 : s2.heap.get? kS = some (seqObj "list" kA e) := pk.1
    obtain ⟨c2, hc2⟩ : ∃ c2, (s2.heap.update kS (Obj.mapSeq (·.push (Value.ref p)))).get? kS = some (seqObj "list" (kA.push (Value.ref p)) c2) := ⟨_, get?_update_seq nk2 (·.push (Value.ref p))⟩
    have sb := Heap.SameBut.update s2.heap kS (Obj.mapSeq (·.push (Value.ref p)))
    refine wpAny_bind (listUpdate_at nk2 rfl ?_ (Nat.le_trans hz1 hZ) (Nat.le_trans (Nat.le_of_eq (Array.size_push ..)) (Nat.succ_le_succ (Nat.le_trans hz1 hZ))))
    have J3 : Inv X ((A0, seqObj "list" #[] e1) :: pins) σ H2 s2 := pins_sub J2 fun p hp => by
      rcases List.mem_cons.mp hp with rfl | hp
      · exact .head _
      · exact .tail _ (.tail _ hp)
    have J4 : Inv X ((A0, seqObj "list" #[] e1) :: pins) σ H2 { s2 with heap := s2.heap.update kS (Obj.mapSeq (·.push (Value.ref p))) } :=
      J3.turned (t' := s2.toks) (it := kS) (fun b o hb e => (sb.2 b hb).trans e) pk.2.1 nK2 (.inr nK4) nK5 fun p hp => by
        rcases List.mem_append.mp hp with hp | hp
        · exact nK6 p (List.mem_append_left _ hp)
        · rcases List.mem_cons.mp hp with rfl | hp
          · exact hka.symm
          · exact nK6 p (List.mem_append_right _ hp)
    have ek : bs.take (j + 1) = bs.take j ++ [bs[j]] := by rw [List.take_add_one, hbj]; rfl
    have ea : (kA.push (Value.ref p)).toList = kA.toList ++ [Value.ref p] := by simp
    refine wpAny_pure ⟨rfl, kA.push (Value.ref p), c2, H2, ?_, sm.trans sm2, ?_⟩
    · refine J4.pins_of fun p' hp' => ?_
      rcases List.mem_cons.mp hp' with rfl | hp'
      · exact J4.pin _ (List.mem_append_right _ (.head _))
      rcases List.mem_cons.mp hp' with rfl | hp'
      · exact ⟨hc2, pk.2.1, nK2, nK3, noc _ _⟩
      · exact J4.pin _ (List.mem_append_right _ (.tail _ hp'))
    · rw [ea, ek]
      refine PySem.W.each_snoc ⟨p, rfl, hp⟩ (hk.mono fun v b ⟨p1, e1, e2⟩ => ⟨p1, e1, sm2 _ _ e2⟩)
  case done =>
    rintro s1 ⟨kA, e, H1, J, sm, hk⟩
    rw [Nat.zero_add, hlen, List.take_length] at hk
    have pk := J.pin (kS, seqObj "list" kA e) (List.mem_append_right _ (.tail _ (.head _)))
    have pa := J.pin (A0, seqObj "list" #[] e1) (List.mem_append_right _ (.head _))
    have hk1 : EachIs (fun v k => ∃ as, Reads s1.heap v k as) kA.toList (bs.map (kTup key)) :=
      PySem.W.each_map (R := fun v d => ∃ as, Reads s1.heap v d as) (kTup key) (hk.mono fun v b ⟨p, e1, e2⟩ => by
        subst e1
        exact reads_tupI J e2)
    have hsz : kA.size = its.length := by
      have h1 := hk.length
      rw [Array.length_toList] at h1
      omega
    have hal : AllAlike (bs.map (kTup key)) := PySem.W.AllAlike.of fun b b' => kTup_alike key b b'
    have hsk : Sortable (bs.map (kTup key)) := .inl fun d hd => by
      obtain ⟨b, hb1, rfl⟩ := List.mem_map.mp hd
      unfold kTup
      cases hkb : key b with
      | nil => exact absurd hkb (hne b hb1)
      | cons i l => exact ⟨.int i, l.map .int, rfl⟩
    have hun := hr.units
    try dsimp only
    refine wpAny_bind (listItems_at pk.1 rfl ?_)
    refine PySem.W.keyH_end (κ := PySem.W.dataKind s1.heap (bs.map (kTup key))) (h₁ := PySem.W.hideAll s1.heap [kS]) (kS := kS) (fun b o _ e2 => PySem.W.of_hideAll [kS] e2) (PySem.W.hideAll_none [kS] (.head _)) pk.1 pa.1 hka
      (PySem.W.SortsAt.data (s := s1) hk1 hal hsk fun d hd => ?_) hsz hZ fun h2 tk c kp hat => ⟨rfl, ?_⟩
    · obtain ⟨b, hb1, rfl⟩ := List.mem_map.mp hd
      rw [kTup_depth]
      show X.A.units + 1 + 1 + 1 < cLine
      omega
    have old2 : ∀ b o, b ≠ A0 → b ≠ kS → s1.heap.get? b = some o → h2.get? b = some o := fun b o n1 n2 e2 => kp b o n1 (PySem.W.hideAll_get [kS] e2 (by simpa using n2))
    have kout : PySem.W.KeyedOut false (bs.map (kTup key)) its (PySem.W.sortVals (PySem.W.dataKind s1.heap (bs.map (kTup key))) false kA.toList its) := ⟨s1.heap, kA.toList, hal, rfl, hk1⟩
    have eR : EachIs (fun v b => ∃ x, RelV x v ∧ x = item b) its bs := by
      refine vals_each (R := fun x b => x = item b) rv ?_
      have go : ∀ l : List β, EachIs (fun x b => x = item b) (l.map item) l := fun l => by
        induction l with
        | nil => exact .nil
        | cons b l ih => exact .cons rfl ih
      exact go bs
    obtain ⟨ys, ry, hY⟩ := each_vals (R := fun x b => x = item b) (PySem.W.keyedOut_each (kTup key) kout eR)
    have hys : ys = (bs.mergeSort (dataLe false (kTup key))).map item := by
      have go : ∀ {xs : List V} {l : List β}, EachIs (fun x b => x = item b) xs l → xs = l.map item := fun {xs l} h => by
        induction h with
        | nil => rfl
        | cons h1 _ ih => rw [h1, ih]; rfl
      exact go hY
    have hylen : ys.length ≤ sizeLine := by
      rw [hys, List.length_map, List.length_mergeSort]
      omega
    have Jp : Inv X pins σ H1 s1 := pins_sub J fun p hp => .tail _ (.tail _ hp)
    have hot : ∀ {b : Addr} {u : HO}, H1 b = some u → b ≠ A0 ∧ b ≠ kS := fun {b u} e2 => by
      refine ⟨fun z => ?_, fun z => ?_⟩
      · subst z
        rw [pa.2.1] at e2
        cases e2
      · subst z
        rw [pk.2.1] at e2
        cases e2
    have fin : Inv X pins σ (upd H1 A0 (.lst ys)) { s1 with heap := h2, toks := tk } := by
      refine Jp.step (g' := s1.gens) (d' := s1.drawn) (ch := [A0, kS]) (fun b hb1 => ?_) (fun b o _ _ hc e2 _ => ?_) (fun b o _ _ hc e2 _ => ?_) (fun b o hc e2 n => ?_) (fun b o hc e2 => ?_) (fun b xs e2 => ?_) (fun b o u e2 => ?_) (fun b p2 e2 => ⟨#[], ?_⟩) (fun m hm => ?_) (fun b u e2 => ?_) Jp.bare
      · rcases List.mem_cons.mp hb1 with rfl | hb1
        · exact ⟨.inr nA4, nA2, nA5, nA6⟩
        · have z : b = kS := by simpa using hb1
          subst z
          exact ⟨.inr nK4, nK2, nK5, nK6⟩
      · have hc1 : b ≠ A0 ∧ b ≠ kS := by simpa using hc
        exact old2 b o hc1.1 hc1.2 e2
      · have hc1 : b ≠ A0 ∧ b ≠ kS := by simpa using hc
        exact ⟨o.slots, old2 b o hc1.1 hc1.2 e2⟩
      · have hc1 : b ≠ A0 ∧ b ≠ kS := by simpa using hc
        rw [upd_ne hc1.1]
        exact n
      · have hc1 : b ≠ A0 ∧ b ≠ kS := by simpa using hc
        exact ⟨o, old2 b o hc1.1 hc1.2 e2⟩
      · rw [upd_ne (hot e2).1]
        exact e2
      · rw [upd_ne (hot e2).1]
        exact e2
      · rw [upd_ne (hot e2).1, e2]
        simp
      · obtain ⟨o, es, ep, e3, r3⟩ := hm
        exact ⟨o, es, ep, old2 _ o nA2.symm nK2.symm e3, r3⟩
      · by_cases hbA : b = A0
        · subst hbA
          rw [upd_same] at e2
          cases e2
          exact ⟨hylen, _, c, ry, hat⟩
        · rw [upd_ne hbA] at e2
          refine (Jp.hok b u e2).stay (fun c2 v hc2 q2 => ?_) (fun c2 q2 => ?_) fun c2 xs q2 => ?_
          · rcases hc2 with rfl | hc2
            · exact old2 _ v (hot e2).1 (hot e2).2 q2
            · exact old2 _ v (hot hc2).1 (hot hc2).2 q2
          · rw [upd_ne (hot q2).1]
            exact q2
          · rw [upd_ne (hot q2).1]
            exact q2
    rw [hys] at fin
    refine ⟨.ref A0, _, fin, rfl, q A0 _ (fun b o e2 => ?_) nA1 upd_same⟩
    have e3 := sm b o e2
    rw [upd_ne (hot e3).1]
    exact e3
end
end FW
set_option Elab.async false
set_option linter.all false
set_option maxRecDepth 100000
set_option maxHeartbeats 4000000
/-! Words of letters, their turns, their order; plain Lean. -/
namespace FW
open PySem
abbrev Wd := List Bool
/-- a text of two signs -/
def t2 (f t : Nat) (w : Wd) : Str := ⟨(w.map fun b => if b then t else f).toArray⟩
abbrev tx : Wd → Str := t2 108 114
abbrev dg : Wd → Str := t2 48 49
theorem t2_len (f t : Nat) (w : Wd) : (t2 f t w).length = w.length := by
  show ((w.map fun b => if b then t else f).toArray).size = w.length
  rw [List.size_toArray, List.length_map]
theorem t2_app (f t : Nat) (a b : Wd) : t2 f t a ++ t2 f t b = t2 f t (a ++ b) := by
  show (⟨((a.map fun b => if b then t else f).toArray) ++ ((b.map fun b => if b then t else f).toArray)⟩ : Str) = ⟨((a ++ b).map fun b => if b then t else f).toArray⟩
  rw [List.map_append, List.append_toArray]
theorem map2_inj {f t : Nat} (h : f ≠ t) : ∀ {a b : Wd}, (a.map fun b => if b then t else f) = (b.map fun b => if b then t else f) → a = b
  | [], [], _ => rfl
  | [], _ :: _, e => by simp at e
  | _ :: _, [], e => by simp at e
  | x :: a, y :: b, e => by
    rw [List.map_cons, List.map_cons] at e
    injection e with e1 e2
    rw [map2_inj h e2]
    cases x <;> cases y <;> simp_all
theorem t2_inj {f t : Nat} (h : f ≠ t) {a b : Wd} (e : t2 f t a = t2 f t b) : a = b := by
  have e1 : (a.map fun b => if b then t else f).toArray = (b.map fun b => if b then t else f).toArray := congrArg Str.cps e
  exact map2_inj h (by simpa using e1)
theorem tx_inj {a b : Wd} (e : tx a = tx b) : a = b := t2_inj (by decide) e
theorem dg_inj {a b : Wd} (e : dg a = dg b) : a = b := t2_inj (by decide) e
theorem t2_list (f t : Nat) (w : Wd) : (t2 f t w).cps.toList = w.map fun b => if b then t else f := by
  show ((w.map fun b => if b then t else f).toArray).toList = _
  simp

/-! ### said several times -/
def rep (u : Wd) (m : Nat) : Wd := (List.replicate m u).flatten
theorem rep_zero (u : Wd) : rep u 0 = [] := rfl
theorem rep_succ (u : Wd) (m : Nat) : rep u (m + 1) = u ++ rep u m := by
  unfold rep
  rw [List.replicate_succ, List.flatten_cons]
theorem rep_len (u : Wd) : ∀ m, (rep u m).length = m * u.length
  | 0 => by rw [rep_zero]; simp
  | m + 1 => by rw [rep_succ, List.length_append, rep_len u m, Nat.succ_mul, Nat.add_comm]
theorem rep_comm (u : Wd) : ∀ m, u ++ rep u m = rep u m ++ u
  | 0 => by rw [rep_zero]; simp
  | m + 1 => by rw [rep_succ, List.append_assoc, ← rep_comm u m]
theorem fold_app (f t : Nat) (u : Wd) : ∀ (k : Nat) (acc : Wd), (List.replicate k (t2 f t u).cps).foldl (· ++ ·) (t2 f t acc).cps = (t2 f t (acc ++ rep u k)).cps
  | 0, acc => by rw [rep_zero, List.append_nil]; rfl
  | k + 1, acc => by
    rw [List.replicate_succ, List.foldl_cons]
    have e : (t2 f t acc).cps ++ (t2 f t u).cps = (t2 f t (acc ++ u)).cps := congrArg Str.cps (t2_app f t acc u)
    show (List.replicate k (t2 f t u).cps).foldl (· ++ ·) ((t2 f t acc).cps ++ (t2 f t u).cps) = _
    rw [e, fold_app f t u k (acc ++ u), rep_succ, List.append_assoc]
theorem mul_t2 (f t : Nat) (u : Wd) (k : Nat) : Txt.mul (t2 f t u) (k : Int) = t2 f t (rep u k) := by
  unfold Txt.mul
  by_cases h0 : k = 0
  · subst h0
    rfl
  · rw [if_neg (by omega)]
    by_cases h1 : ((((k : Nat) : Int) == 1 || (t2 f t u).length == 0) = true)
    · rw [if_pos h1]
      rw [Bool.or_eq_true] at h1
      rcases h1 with h1 | h1
      · have e : k = 1 := by
          have e1 : ((k : Nat) : Int) = 1 := by simpa using h1
          omega
        subst e
        rw [rep_succ, rep_zero, List.append_nil]
      · have e : u = [] := by
          rw [t2_len] at h1
          exact List.eq_nil_of_length_eq_zero (by simpa using h1)
        subst e
        have e2 : rep ([] : Wd) k = [] := List.eq_nil_of_length_eq_zero (by rw [rep_len]; simp)
        rw [e2]
    · rw [if_neg h1]
      have e := fold_app f t u k []
      rw [List.nil_append] at e
      have e2 : (t2 f t []).cps = #[] := rfl
      rw [e2] at e
      rw [Int.toNat_natCast, e]

/-! ### turns -/
def rot (k : Nat) (w : Wd) : Wd := w.drop k ++ w.take k
theorem rot_len (k : Nat) (w : Wd) : (rot k w).length = w.length := by
  unfold rot
  rw [List.length_append, List.length_drop, List.length_take]
  omega
theorem rot_zero (w : Wd) : rot 0 w = w := by unfold rot; simp
theorem rot_full (w : Wd) : rot w.length w = w := by unfold rot; simp
theorem rot_rot1 {w : Wd} {k : Nat} (h : k < w.length) : rot k (rot 1 w) = rot (k + 1) w := by
  cases w with
  | nil => simp at h
  | cons a t =>
    have hk : k ≤ t.length := by simpa using Nat.le_of_lt_succ h
    unfold rot
    simp only [List.drop_succ_cons, List.drop_zero, List.take_succ_cons, List.take_zero]
    rw [List.drop_append_of_le_length hk, List.take_append_of_le_length hk, List.append_assoc]
    rfl
theorem rot1_rot {w : Wd} {k : Nat} (h : k < w.length) : rot 1 (rot k w) = rot (k + 1) w := by
  unfold rot
  have e1 : w.drop k = w[k] :: w.drop (k + 1) := List.drop_eq_getElem_cons h
  have e2 : w.take (k + 1) = w.take k ++ [w[k]] := by rw [List.take_add_one, List.getElem?_eq_getElem h]; rfl
  rw [e1, e2, List.cons_append]
  simp only [List.drop_succ_cons, List.drop_zero, List.take_succ_cons, List.take_zero]
  rw [List.append_assoc]
theorem rot1_inj {v w : Wd} (h : v.length = w.length) (e : rot 1 v = rot 1 w) : v = w := by
  cases v with
  | nil =>
    have e0 : w = [] := List.eq_nil_of_length_eq_zero (by rw [← h]; rfl)
    rw [e0]
  | cons a s =>
    cases w with
    | nil => simp at h
    | cons b t =>
      unfold rot at e
      simp only [List.drop_succ_cons, List.drop_zero, List.take_succ_cons, List.take_zero] at e
      have hl : s.length = t.length := by simpa using h
      obtain ⟨e1, e2⟩ := List.append_inj e hl
      rw [e1]
      injection e2 with e2 _
      rw [e2]
def turns (w : Wd) : List Wd := (List.range w.length).map fun k => rot k w
theorem turns_len (w : Wd) : (turns w).length = w.length := by unfold turns; rw [List.length_map, List.length_range]
theorem mem_turns {w v : Wd} : v ∈ turns w ↔ ∃ k, k < w.length ∧ rot k w = v := by
  unfold turns
  rw [List.mem_map]
  constructor
  · rintro ⟨k, h1, h2⟩
    exact ⟨k, List.mem_range.mp h1, h2⟩
  · rintro ⟨k, h1, h2⟩
    exact ⟨k, List.mem_range.mpr h1, h2⟩
theorem turns_rot1 {w v : Wd} : v ∈ turns (rot 1 w) ↔ v ∈ turns w := by
  rw [mem_turns, mem_turns, rot_len]
  constructor
  · rintro ⟨k, h1, h2⟩
    rw [rot_rot1 h1] at h2
    by_cases hk : k + 1 < w.length
    · exact ⟨k + 1, hk, h2⟩
    · have e : k + 1 = w.length := by omega
      rw [e, rot_full] at h2
      exact ⟨0, by omega, by rw [rot_zero]; exact h2⟩
  · rintro ⟨k, h1, h2⟩
    cases k with
    | zero =>
      rw [rot_zero] at h2
      refine ⟨w.length - 1, by omega, ?_⟩
      rw [rot_rot1 (by omega), show w.length - 1 + 1 = w.length by omega, rot_full]
      exact h2
    | succ k => exact ⟨k, by omega, by rw [rot_rot1 (by omega)]; exact h2⟩
theorem by_turns {P : Wd → Prop} {w : Wd} (h0 : P w) (h1 : ∀ v : Wd, v.length = w.length → P v → P (rot 1 v)) : ∀ k, k ≤ w.length → P (rot k w)
  | 0, _ => by rw [rot_zero]; exact h0
  | k + 1, hk => by
    rw [← rot1_rot (by omega)]
    exact h1 _ (rot_len k w) (by_turns h0 h1 k (by omega))

/-! ### what is a round -/
/-- said several times, of size k -/
def saidBy (w : Wd) (k : Nat) : Bool := w.length % k == 0 && rep (w.take k) (w.length / k) == w
def isR (w : Wd) : Bool := !((List.range' 1 (w.length - 1)).any fun k => saidBy w k)
theorem rep_of_comm {u : Wd} : ∀ (m : Nat) {r : Wd}, r.length = m * u.length → u ++ r = r ++ u → r = rep u m
  | 0, r, hl, _ => List.eq_nil_of_length_eq_zero (by rw [hl]; simp)
  | m + 1, r, hl, e => by
    have hle : u.length ≤ r.length := by rw [hl, Nat.succ_mul]; omega
    have e1 : (u ++ r).take u.length = (r ++ u).take u.length := by rw [e]
    rw [List.take_left, List.take_append_of_le_length hle] at e1
    have e2 : r = u ++ r.drop u.length := by
      conv => lhs; rw [← List.take_append_drop u.length r]
      rw [← e1]
    have hl2 : (r.drop u.length).length = m * u.length := by rw [List.length_drop, hl, Nat.succ_mul]; omega
    have e3 : u ++ r.drop u.length = r.drop u.length ++ u := by
      rw [e2] at e
      rw [List.append_assoc] at e
      have e4 := List.append_cancel_left e
      simpa using e4
    rw [rep_succ, ← rep_of_comm m hl2 e3]
    exact e2
theorem said_rot {w : Wd} {k : Nat} (h1 : 1 ≤ k) (hk : k < w.length) (hd : w.length % k = 0) : rep (w.take k) (w.length / k) = w ↔ rot k w = w := by
  have hkl : (w.take k).length = k := by rw [List.length_take]; omega
  have hm : w.length = (w.length / k) * k := by rw [Nat.div_mul_cancel (Nat.dvd_of_mod_eq_zero hd)]
  have hpos : 0 < w.length / k := Nat.div_pos (Nat.le_of_lt hk) h1
  obtain ⟨m, em⟩ : ∃ m, w.length / k = m + 1 := ⟨w.length / k - 1, by omega⟩
  constructor
  · intro e
    rw [em, rep_succ] at e
    have e1 : w.drop k = rep (w.take k) m := by
      have q : (w.take k ++ rep (w.take k) m).drop k = rep (w.take k) m := by
        conv => lhs; rw [show k = (w.take k).length from hkl.symm]
        rw [hkl]
        conv => lhs; arg 1; rw [← hkl]
        exact List.drop_left
      rw [e] at q
      exact q
    unfold rot
    rw [e1, ← rep_comm]
    exact e
  · intro e
    unfold rot at e
    have e0 : w.take k ++ w.drop k = w := List.take_append_drop k w
    have hl : (w.drop k).length = m * (w.take k).length := by
      rw [List.length_drop, hkl]
      rw [em, Nat.succ_mul] at hm
      omega
    have e2 := rep_of_comm m hl (by rw [e0]; exact e.symm)
    rw [em, rep_succ, ← e2]
    exact e0
theorem isR_iff {w : Wd} : isR w = true ↔ ∀ k, 1 ≤ k → k < w.length → w.length % k = 0 → rot k w ≠ w := by
  unfold isR
  rw [Bool.not_eq_true', List.any_eq_false]
  constructor
  · intro h k h1 h2 h3 e
    refine h k (List.mem_range'_1.mpr ⟨h1, by omega⟩) ?_
    unfold saidBy
    rw [Bool.and_eq_true]
    exact ⟨by simp [h3], by rw [(said_rot h1 h2 h3).mpr e]; simp⟩
  · intro h k hk hs
    obtain ⟨h1, h2⟩ := List.mem_range'_1.mp hk
    unfold saidBy at hs
    rw [Bool.and_eq_true] at hs
    have h3 : w.length % k = 0 := by simpa using hs.1
    have h4 : rep (w.take k) (w.length / k) = w := by simpa using hs.2
    exact h k h1 (by omega) h3 ((said_rot h1 (by omega) h3).mp h4)
theorem isR_rot1 (w : Wd) : isR (rot 1 w) = isR w := by
  have key : isR (rot 1 w) = true ↔ isR w = true := by
    rw [isR_iff, isR_iff, rot_len]
    constructor
    · intro h k h1 h2 h3 e
      refine h k h1 h2 h3 ?_
      rw [rot_rot1 h2, ← rot1_rot h2, e]
    · intro h k h1 h2 h3 e
      refine h k h1 h2 h3 ?_
      rw [rot_rot1 h2, ← rot1_rot h2] at e
      exact rot1_inj (rot_len k w) e
  cases h1 : isR (rot 1 w) <;> cases h2 : isR w <;> simp_all
theorem isR_turn {w v : Wd} (h : v ∈ turns w) : isR v = isR w := by
  obtain ⟨k, hk, rfl⟩ := mem_turns.mp h
  exact by_turns (P := fun v => isR v = isR w) rfl (fun v _ e => by rw [isR_rot1]; exact e) k (Nat.le_of_lt hk)

/-! ### the order of rows -/
def hts : Bool → Wd → Wd
  | _, [] => []
  | p, b :: w => (p ^^ b) :: hts (p ^^ b) w
theorem hts_len : ∀ (p : Bool) (w : Wd), (hts p w).length = w.length
  | _, [] => rfl
  | p, b :: w => by
    show (hts (p ^^ b) w).length + 1 = w.length + 1
    rw [hts_len]
theorem hts_inj : ∀ {p : Bool} {a b : Wd}, hts p a = hts p b → a = b
  | _, [], [], _ => rfl
  | _, [], _ :: _, e => by simp [hts] at e
  | _, _ :: _, [], e => by simp [hts] at e
  | p, x :: a, y :: b, e => by
    simp only [hts] at e
    injection e with e1 e2
    have e3 : x = y := by cases p <;> cases x <;> cases y <;> simp_all
    subst e3
    rw [hts_inj e2]
def ltB : Wd → Wd → Bool
  | [], [] => false
  | [], _ :: _ => true
  | _ :: _, [] => false
  | a :: x, b :: y => if a = b then ltB x y else (!a && b)
theorem ltB_irr : ∀ x : Wd, ltB x x = false
  | [] => rfl
  | a :: x => by
    show (if a = a then ltB x x else _) = false
    rw [if_pos rfl]
    exact ltB_irr x
theorem ltB_tri : ∀ {x y : Wd}, ltB x y = false → ltB y x = false → x = y
  | [], [], _, _ => rfl
  | [], _ :: _, h, _ => by simp [ltB] at h
  | _ :: _, [], _, h => by simp [ltB] at h
  | a :: x, b :: y, h1, h2 => by
    simp only [ltB] at h1 h2
    by_cases e : a = b
    · subst e
      rw [if_pos rfl] at h1 h2
      rw [ltB_tri h1 h2]
    · rw [if_neg e] at h1
      rw [if_neg (Ne.symm e)] at h2
      cases a <;> cases b <;> simp_all
theorem ltB_trans : ∀ {x y z : Wd}, ltB x y = true → ltB y z = true → ltB x z = true
  | [], [], _, h, _ => by simp [ltB] at h
  | [], _ :: _, [], _, h => by simp [ltB] at h
  | [], _ :: _, _ :: _, _, _ => rfl
  | _ :: _, [], _, h, _ => by simp [ltB] at h
  | _ :: _, _ :: _, [], _, h => by simp [ltB] at h
  | a :: x, b :: y, c :: z, h1, h2 => by
    simp only [ltB] at h1 h2 ⊢
    by_cases e1 : a = b
    · subst e1
      rw [if_pos rfl] at h1
      by_cases e2 : a = c
      · subst e2
        rw [if_pos rfl] at h2 ⊢
        exact ltB_trans h1 h2
      · rw [if_neg e2] at h2 ⊢
        exact h2
    · rw [if_neg e1] at h1
      by_cases e2 : b = c
      · subst e2
        rw [if_pos rfl] at h2
        rw [if_neg e1]
        exact h1
      · rw [if_neg e2] at h2
        cases a <;> cases b <;> cases c <;> simp_all
def ltH (a b : Wd) : Bool := ltB (hts false a) (hts false b)
theorem ltH_irr (a : Wd) : ltH a a = false := ltB_irr _
theorem ltH_tri {a b : Wd} (h1 : ltH a b = false) (h2 : ltH b a = false) : a = b := hts_inj (ltB_tri h1 h2)
theorem ltH_trans {a b c : Wd} (h1 : ltH a b = true) (h2 : ltH b c = true) : ltH a c = true := ltB_trans h1 h2
/-- not less, carried on -/
theorem ltH_no {a b c : Wd} (h1 : ltH a b = false) (h2 : ltH a c = true) : ltH b c = true := by
  cases h : ltH b c with
  | true => rfl
  | false =>
    cases h3 : ltH c b with
    | true =>
      have := ltH_trans h2 h3
      rw [h1] at this
      cases this
    | false =>
      have e := ltH_tri h h3
      subst e
      rw [h1] at h2
      cases h2
/-! the greatest one -/
def stepG (best t : Wd) : Wd := if ltH best t = true then t else best
def great (w : Wd) : Wd := (turns w).foldl stepG w
theorem fold_great : ∀ (l : List Wd) (a : Wd), l.foldl stepG a ∈ a :: l ∧ ∀ x ∈ a :: l, ltH (l.foldl stepG a) x = false
  | [], a => ⟨by simp, fun x hx => by
      have e : x = a := by simpa using hx
      subst e
      exact ltH_irr x⟩
  | y :: l, a => by
    obtain ⟨h1, h2⟩ := fold_great l (stepG a y)
    rw [List.foldl_cons]
    have hs : ltH (stepG a y) a = false ∧ ltH (stepG a y) y = false ∧ (stepG a y = a ∨ stepG a y = y) := by
      unfold stepG
      by_cases h : ltH a y = true
      · rw [if_pos h]
        refine ⟨?_, ltH_irr y, .inr rfl⟩
        cases h3 : ltH y a with
        | false => rfl
        | true =>
          have := ltH_trans h h3
          rw [ltH_irr] at this
          cases this
      · rw [if_neg h]
        exact ⟨ltH_irr a, by simpa using h, .inl rfl⟩
    have up : ∀ x, ltH (stepG a y) x = false → ltH (l.foldl stepG (stepG a y)) x = false := fun x hx => by
      have h3 := h2 (stepG a y) (by simp)
      cases h4 : ltH (l.foldl stepG (stepG a y)) x with
      | false => rfl
      | true =>
        have := ltH_no h3 h4
        rw [hx] at this
        cases this
    refine ⟨?_, fun x hx => ?_⟩
    · rcases List.mem_cons.mp h1 with e | e
      · rw [e]
        rcases hs.2.2 with e2 | e2
        · rw [e2]; simp
        · rw [e2]; simp
      · simp [e]
    · rcases List.mem_cons.mp hx with e | hx
      · subst e
        exact up _ hs.1
      rcases List.mem_cons.mp hx with e | hx
      · subst e
        exact up _ hs.2.1
      · exact h2 x (by simp [hx])
theorem great_mem {w : Wd} (h : w ≠ []) : great w ∈ turns w := by
  have h0 : w ∈ turns w := mem_turns.mpr ⟨0, List.length_pos_iff.mpr h, rot_zero w⟩
  rcases List.mem_cons.mp (fold_great (turns w) w).1 with e | e
  · unfold great
    rw [e]
    exact h0
  · exact e
theorem great_max {w v : Wd} (h : v ∈ turns w) : ltH (great w) v = false := (fold_great (turns w) w).2 v (by simp [h])
theorem great_rot1 (w : Wd) : great (rot 1 w) = great w := by
  by_cases h : w = []
  · subst h
    rfl
  · have h' : rot 1 w ≠ [] := fun e => h (List.eq_nil_of_length_eq_zero (by rw [← rot_len 1 w, e]; rfl))
    have m1 := great_mem h
    have m2 := turns_rot1.mp (great_mem h')
    exact ltH_tri (great_max (turns_rot1.mpr m1)) (great_max m2)
theorem great_turn {w v : Wd} (h : v ∈ turns w) : great v = great w := by
  obtain ⟨k, hk, rfl⟩ := mem_turns.mp h
  exact by_turns (P := fun v => great v = great w) rfl (fun v _ e => by rw [great_rot1]; exact e) k (Nat.le_of_lt hk)
theorem great_len (w : Wd) : (great w).length = w.length := by
  by_cases h : w = []
  · subst h
    rfl
  · obtain ⟨k, hk, e⟩ := mem_turns.mp (great_mem h)
    rw [← e, rot_len]
/-- from the second turn on: the first is the word itself -/
theorem great_tail {w : Wd} (h : w ≠ []) : ∃ r, turns w = w :: r ∧ great w = r.foldl stepG w := by
  cases hl : w.length with
  | zero => exact absurd (List.eq_nil_of_length_eq_zero hl) h
  | succ n =>
    refine ⟨(List.range' 1 n).map fun k => rot k w, ?_, ?_⟩
    · unfold turns
      rw [hl, List.range_eq_range', List.range'_succ, List.map_cons, rot_zero]
    · unfold great turns
      rw [hl, List.range_eq_range', List.range'_succ, List.map_cons, rot_zero, List.foldl_cons]
      unfold stepG
      rw [ltH_irr]
      rfl
end FW
set_option Elab.async false
set_option linter.all false
set_option maxRecDepth 100000
set_option maxHeartbeats 4000000
/-! The order of rows as the data's order; the lists of rounds up to six; the counts up to two hundred. -/
namespace FW
open PySem
open PySem.W (alike dataLt dataLe)

/-- the program's key: the heights of the loop said twice; the pair that it compares -/
def hk (w : Wd) : Wd := hts false (w ++ w)
def pairD (w : Wd) : PyData := .tuple [.str (dg (hk w)), .str (tx w)]
/-- the law's key: the heights as numbers -/
def b01 (b : Bool) : Int := if b then 1 else 0
def kInts (w : Wd) : List Int := (hts false w).map b01
def keyT (w : Wd) : PyData := .tuple ((kInts w).map .int)

theorem hts_app : ∀ (p : Bool) (a b : Wd), ∃ q, hts p (a ++ b) = hts p a ++ hts q b
  | p, [], b => ⟨p, rfl⟩
  | p, x :: a, b => by
    obtain ⟨q, e⟩ := hts_app (p ^^ x) a b
    refine ⟨q, ?_⟩
    show (p ^^ x) :: hts (p ^^ x) (a ++ b) = (p ^^ x) :: hts (p ^^ x) a ++ hts q b
    rw [e]
    rfl
theorem ltB_app : ∀ {x y u v : Wd}, x.length = y.length → x ≠ y → ltB (x ++ u) (y ++ v) = ltB x y
  | [], [], _, _, _, h => absurd rfl h
  | [], _ :: _, _, _, h, _ => by simp at h
  | _ :: _, [], _, _, h, _ => by simp at h
  | a :: x, b :: y, u, v, hl, h => by
    show (if a = b then ltB (x ++ u) (y ++ v) else (!a && b)) = (if a = b then ltB x y else (!a && b))
    by_cases e : a = b
    · subst e
      rw [if_pos rfl, if_pos rfl]
      exact ltB_app (by simpa using hl) (fun e => h (by rw [e]))
    · rw [if_neg e, if_neg e]
theorem ltB_hk {a b : Wd} (h : a.length = b.length) : ltB (hk a) (hk b) = ltH a b := by
  by_cases e : a = b
  · subst e
    rw [ltB_irr, ltH_irr]
  · unfold hk ltH
    obtain ⟨q1, e1⟩ := hts_app false a a
    obtain ⟨q2, e2⟩ := hts_app false b b
    rw [e1, e2]
    exact ltB_app (by rw [hts_len, hts_len, h]) fun z => e (hts_inj z)
theorem lt_nats {f t : Nat} (hft : f < t) : ∀ x y : Wd, decide ((x.map fun b => if b then t else f) < (y.map fun b => if b then t else f)) = ltB x y
  | [], [] => by simp [ltB]
  | [], _ :: _ => by simp [ltB]
  | _ :: _, [] => by simp [ltB]
  | a :: x, b :: y => by
    have ih := lt_nats hft x y
    rw [List.map_cons, List.map_cons]
    simp only [ltB]
    by_cases e : a = b
    · subst e
      rw [if_pos rfl, ← ih]
      simp [List.cons_lt_cons_iff]
    · rw [if_neg e]
      cases a <;> cases b <;> simp_all [List.cons_lt_cons_iff] <;> omega
theorem lt_dg (x y : Wd) : decide ((dg x).cps.toList < (dg y).cps.toList) = ltB x y := by
  rw [t2_list, t2_list]
  exact lt_nats (by decide) x y
theorem pairD_lt {a b : Wd} (h : a.length = b.length) : dataLt (pairD a) (pairD b) = ltH a b := by
  unfold pairD
  rw [PySem.W.dataLt_pair (by simp [alike]) (by simp [alike]), PySem.W.dataLt_str (dg (hk a)) (dg (hk b)), lt_dg]
  by_cases e : a = b
  · subst e
    simp [PyData.eqv, ltH_irr]
  · have e1 : ¬ dg (hk a) = dg (hk b) := fun z => by
      have z1 := dg_inj z
      have l1 := ltB_hk h
      have l2 := ltB_hk h.symm
      rw [z1, ltB_irr] at l1 l2
      exact e (ltH_tri l1.symm l2.symm)
    rw [if_neg (by simp [PyData.eqv, e1])]
    exact ltB_hk h
theorem pairD_alike (a b : Wd) : alike (pairD a) (pairD b) = true := by
  unfold pairD
  simp [alike, PySem.W.alikeAll]
theorem pairD_depth (a : Wd) : (pairD a).depth = 1 := by
  unfold pairD
  simp [PyData.depth, PyData.depthAll]
theorem lt_ints : ∀ x y : Wd, decide ((x.map b01) < (y.map b01)) = ltB x y
  | [], [] => by simp [ltB]
  | [], _ :: _ => by simp [ltB]
  | _ :: _, [] => by simp [ltB]
  | a :: x, b :: y => by
    have ih := lt_ints x y
    rw [List.map_cons, List.map_cons]
    simp only [ltB]
    by_cases e : a = b
    · subst e
      rw [if_pos rfl, ← ih]
      simp [List.cons_lt_cons_iff]
    · rw [if_neg e]
      cases a <;> cases b <;> simp_all [List.cons_lt_cons_iff, b01]
theorem keyT_lt (a b : Wd) : dataLt (keyT a) (keyT b) = ltH a b := by
  unfold keyT
  rw [PySem.W.dataLt_tuple]
  have e := PySem.W.dataLt_ints (kInts a) (kInts b)
  unfold PySem.W.rowLt at e
  rw [e]
  exact lt_ints _ _
theorem keyT_alike (a b : Wd) : alike (keyT a) (keyT b) = true := by
  unfold keyT
  simp only [alike]
  exact PySem.W.alike_ints _ _
theorem keyT_depth (a : Wd) : (keyT a).depth = 1 := by
  unfold keyT
  simp only [PyData.depth]
  rw [PySem.W.depth_ints]
/-- the greatest pair -/
theorem maxD_pairs : ∀ (r : List Wd) (w : Wd), (∀ v ∈ r, v.length = w.length) → PySem.W.maxD (pairD w) (r.map pairD) = pairD (r.foldl stepG w)
  | [], w, _ => rfl
  | v :: r, w, h => by
    have hv : v.length = w.length := h v (by simp)
    unfold PySem.W.maxD
    rw [List.map_cons, List.foldl_cons, List.foldl_cons, pairD_lt hv.symm]
    have e : (if ltH w v = true then pairD v else pairD w) = pairD (stepG w v) := by
      unfold stepG
      by_cases q : ltH w v = true
      · rw [if_pos q, if_pos q]
      · rw [if_neg q, if_neg q]
    rw [e]
    refine maxD_pairs r (stepG w v) fun u hu => ?_
    have e2 : (stepG w v).length = w.length := by
      unfold stepG
      split
      · exact hv
      · rfl
    rw [e2]
    exact h u (by simp [hu])

/-! ### all words of a length, as both sides make them -/
def wordsP : Nat → List Wd
  | 0 => [[]]
  | n + 1 => (wordsP n).flatMap fun w => [w ++ [false], w ++ [true]]
def wordsL : Nat → List Wd
  | 0 => [[]]
  | n + 1 => ((wordsL n).map fun w => w ++ [false]) ++ (wordsL n).map fun w => w ++ [true]
theorem wordsP_len : ∀ n, ∀ w ∈ wordsP n, w.length = n
  | 0, w, h => by
    have e : w = [] := by simpa [wordsP] using h
    subst e
    rfl
  | n + 1, w, h => by
    obtain ⟨v, hv, hw⟩ := List.mem_flatMap.mp h
    have ih := wordsP_len n v hv
    have hw2 : w = v ++ [false] ∨ w = v ++ [true] := by simpa using hw
    rcases hw2 with e | e <;> (subst e; simp [ih])
theorem wordsL_len : ∀ n, ∀ w ∈ wordsL n, w.length = n
  | 0, w, h => by
    have e : w = [] := by simpa [wordsL] using h
    subst e
    rfl
  | n + 1, w, h => by
    rcases List.mem_append.mp h with h | h
    all_goals
      obtain ⟨v, hv, e⟩ := List.mem_map.mp h
      subst e
      simp [wordsL_len n v hv]
def someP (n : Nat) : List Wd := (wordsP n).filter fun w => isR w && great w == w
def loopsL (n : Nat) : List Wd := ((wordsL n).filter isR).map great
/-- each once, by its first place -/
def ins (l : List Wd) (w : Wd) : List Wd := if l.contains w = true then l else l ++ [w]
def onceL (l : List Wd) : List Wd := l.foldl ins []
def keysL (n : Nat) : List Wd := onceL (loopsL n)
def leH (a b : Wd) : Bool := !ltH b a
theorem leH_trans (a b c : Wd) (h1 : leH a b = true) (h2 : leH b c = true) : leH a c = true := by
  unfold leH at *
  cases h : ltH c a with
  | false => rfl
  | true =>
    have e1 : ltH b a = false := by simpa using h1
    have e2 : ltH c b = false := by simpa using h2
    have := ltH_no e2 h
    rw [e1] at this
    cases this
theorem leH_total (a b : Wd) : (leH a b || leH b a) = true := by
  unfold leH
  cases h1 : ltH b a with
  | false => rfl
  | true =>
    cases h2 : ltH a b with
    | false => rfl
    | true =>
      have := ltH_trans h1 h2
      rw [ltH_irr] at this
      cases this
theorem leH_anti {a b : Wd} (h1 : leH a b = true) (h2 : leH b a = true) : a = b := by
  unfold leH at *
  exact ltH_tri (by simpa using h2) (by simpa using h1)
/-- the rounds of a length, in order -/
def sortedR (n : Nat) : List Wd := (someP n).mergeSort leH
theorem sortP (n : Nat) : (someP n).mergeSort (dataLe false pairD) = sortedR n := by
  refine PySem.W.sort_congr fun a ha b hb => ?_
  have la := wordsP_len n a (List.mem_filter.mp ha).1
  have lb := wordsP_len n b (List.mem_filter.mp hb).1
  show (!dataLt (pairD b) (pairD a)) = _
  rw [pairD_lt (lb.trans la.symm)]
  rfl
theorem sort_perm {l m : List Wd} (h : l.Perm m) : l.mergeSort leH = m.mergeSort leH := by
  refine List.Perm.eq_of_pairwise (le := fun a b => leH a b = true) (fun a b _ _ h1 h2 => leH_anti h1 h2) (List.pairwise_mergeSort leH_trans leH_total l) (List.pairwise_mergeSort leH_trans leH_total m) ?_
  exact ((List.mergeSort_perm l leH).trans h).trans (List.mergeSort_perm m leH).symm
theorem sortL (l : List Wd) : l.mergeSort (dataLe false keyT) = l.mergeSort leH := by
  refine PySem.W.sort_congr fun a _ b _ => ?_
  show (!dataLt (keyT b) (keyT a)) = _
  rw [keyT_lt]
  rfl
def permOk (n : Nat) : Bool := (someP n).isPerm (keysL n)
theorem permOk_all : (List.range 6).all (fun n => permOk (n + 1)) = true := by decide +kernel
theorem perm_6 {n : Nat} (h1 : 1 ≤ n) (h6 : n ≤ 6) : (someP n).Perm (keysL n) := by
  have h := List.all_eq_true.mp permOk_all (n - 1) (List.mem_range.mpr (by omega))
  have e : n - 1 + 1 = n := by omega
  have h2 : permOk (n - 1 + 1) = true := h
  rw [e] at h2
  exact List.isPerm_iff.mp h2
/-- both sides tell one list -/
theorem lists_one {n : Nat} (h1 : 1 ≤ n) (h6 : n ≤ 6) : (keysL n).mergeSort (dataLe false keyT) = sortedR n := by
  rw [sortL]
  exact (sort_perm (perm_6 h1 h6)).symm
theorem sortedR_len (n : Nat) : (sortedR n).length = (someP n).length := List.length_mergeSort _
theorem sortedR_mem {n : Nat} {w : Wd} (h : w ∈ sortedR n) : w.length = n :=
  wordsP_len n w (List.mem_filter.mp ((List.mergeSort_perm (someP n) leH).mem_iff.mp h)).1

/-! ### how many -/
/-- left divided by p as often as it goes -/
def strip : Nat → Nat → Nat → Nat
  | 0, _, l => l
  | f + 1, p, l => if l % p = 0 then strip f p (l / p) else l
structure DSt where
  found : List (Int × Int)
  left : Nat
  prime : Nat
def dstep (s : DSt) : DSt := ⟨if s.left % s.prime = 0 then s.found ++ s.found.map (fun x => (x.1 * (s.prime : Int), -x.2)) else s.found, strip s.left s.prime s.left, s.prime + 1⟩
def dst (n : Nat) : Nat → DSt
  | 0 => ⟨[(1, 1)], n, 2⟩
  | k + 1 => dstep (dst n k)
def divs (n : Nat) : List (Int × Int) := (dst n n).found
def roundsI (n : Nat) : Int := ((divs n).map fun x => x.2 * 2 ^ ((n : Int) / x.1).toNat).sum / (n : Int)
/-- the law's own table -/
def kstep (n : Nat) (known : List (Nat × Int)) (s : Nat) : List (Nat × Int) :=
  if n % s = 0 then known ++ [(s, 2 ^ s - ((known.filter fun x => s % x.1 == 0).map (·.2)).sum)] else known
def known (n k : Nat) : List (Nat × Int) := (List.range' 1 k).foldl (kstep n) []
def countL (n : Nat) : Int := (((known n n).find? fun x => x.1 == n).map (·.2)).getD 0 / (n : Int)
def okN (n : Nat) : Bool := (dst n n).left == 1 && (roundsI n == countL n) && (divs n).all (fun x => decide (1 ≤ x.1 ∧ x.1 ≤ 200) && (x.2 == 1 || x.2 == -1)) && decide (0 ≤ roundsI n ∧ roundsI n < 2 ^ 200) && decide ((divs n).length ≤ 100) && (((known n n).find? fun x => x.1 == n).isSome)
theorem okN_all : (List.range 200).all (fun n => okN (n + 1)) = true := by decide +kernel
theorem okN_of {n : Nat} (h1 : 1 ≤ n) (h2 : n ≤ 200) : okN n = true := by
  have h := List.all_eq_true.mp okN_all (n - 1) (List.mem_range.mpr (by omega))
  have e : n - 1 + 1 = n := by omega
  have h3 : okN (n - 1 + 1) = true := h
  rw [e] at h3
  exact h3
def len6 (n : Nat) : Bool := roundsI n == ((someP n).length : Int)
theorem len6_all : (List.range 6).all (fun n => len6 (n + 1)) = true := by decide +kernel
theorem rounds_6 {n : Nat} (h1 : 1 ≤ n) (h6 : n ≤ 6) : roundsI n = ((sortedR n).length : Int) := by
  have h := List.all_eq_true.mp len6_all (n - 1) (List.mem_range.mpr (by omega))
  have e : n - 1 + 1 = n := by omega
  have h3 : len6 (n - 1 + 1) = true := h
  rw [e] at h3
  rw [sortedR_len]
  unfold len6 at h3
  simpa using h3
end FW
set_option Elab.async false
set_option linter.all false
set_option maxRecDepth 100000
set_option maxHeartbeats 4000000
/-! The text by places; short words for calls; the reading of comprehensions. -/
namespace FW
open PySem PySem.Spec PyProof.Rows L2
def top (i : Nat) : Stmt := PySem.Challenge.pw_foldworld_k52_whole_rounds_listed.main.body.getD i (.Pass ⟨0, 0, 0, 0⟩)

/-- names of the module that are still the built-ins; the constants that are read -/
structure Glo (mg : Str → Option Value) : Prop where
  bIsinstance : mg "isinstance" = none
  bInt : mg "int" = none
  bBool : mg "bool" = none
  bStr : mg "str" = none
  bLen : mg "len" = none
  bAll : mg "all" = none
  bRange : mg "range" = none
  bMax : mg "max" = none
  bMin : mg "min" = none
  bSum : mg "sum" = none
  bSorted : mg "sorted" = none
  bTuple : mg "tuple" = none
  bDivmod : mg "divmod" = none
  bAbs : mg "abs" = none
  bDict : mg "dict" = none
  bList : mg "list" = none
  bRepr : mg "repr" = none
  cArches : ∃ t, mg "MOST_ARCHES" = some (.int 12 t)
  cLetters : ∃ t, mg "MOST_LETTERS" = some (.int 40 t)
  cRound : ∃ t, mg "MOST_ROUND" = some (.int 200 t)
  cRounds : ∃ t, mg "MOST_ROUNDS" = some (.int 10 t)
  cFigures : ∃ t, mg "FIGURES" = some (.str "0123456789" t)

section
variable {X : Cx} {x : Str} {p pos : Pos} {e : Expr} {es : List Expr} {t : TA} {te : TE} {id T : String} {r : List V → Hp → VK → Prop}
theorem pe_cint {i : Int} (h : ∃ t, X.mg x = some (.int i t)) (hg : Gl X x := by rfl) (hdb : (x == ("__debug__" : Str)) = false := by decide) : PE X (.Name x pos) (tC (.int i)) := by
  obtain ⟨t, ht⟩ := h
  exact pe_glob hg ht ⟨t, rfl⟩ hdb
theorem pe_cstr {z : Str} (h : ∃ t, X.mg x = some (.str z t)) (hg : Gl X x := by rfl) (hdb : (x == ("__debug__" : Str)) = false := by decide) : PE X (.Name x pos) (tC (.str z)) := by
  obtain ⟨t, ht⟩ := h
  exact pe_glob hg ht ⟨t, rfl⟩ hdb
/-- a built-in function, a built-in type, called by name -/
theorem cB (hc : CallR X (.builtin id) r) (hm : X.mg x = none) (ha : PA X (e :: es) t) (hg : Gl X x := by rfl) (hv : bootBuiltins x = some (.builtin id) := by decide +kernel) (hn : x ≠ "__name__" := by decide) (hdb : (x == ("__debug__" : Str)) = false := by decide)
    (he : starEach (e :: es) X.env = (false, eval e X.env) :: starEach es X.env := by rfl) (hpl : (backTo pos (starEach es X.env)).any (·.1) = false := by rfl) : PE X (.Call (.Name x p) (e :: es) [] pos) (tCB r t) := pe_callB hc hg hm hv ha hn hdb he hpl
theorem cT (hc : CallR X (.type T) r) (hm : X.mg x = none) (ha : PA X (e :: es) t) (hg : Gl X x := by rfl) (hv : bootBuiltins x = some (.type T) := by decide +kernel) (hn : x ≠ "__name__" := by decide) (hdb : (x == ("__debug__" : Str)) = false := by decide)
    (he : starEach (e :: es) X.env = (false, eval e X.env) :: starEach es X.env := by rfl) (hpl : (backTo pos (starEach es X.env)).any (·.1) = false := by rfl) : PE X (.Call (.Name x p) (e :: es) [] pos) (tCB r t) := pe_callTy hc hg hm hv ha hn hdb he hpl
theorem p1 (he : PE X e te) (hs : starEach (e :: []) X.env = (false, eval e X.env) :: starEach [] X.env := by rfl) : PA X [e] (tCons te tNil) := pa_cons he pa_nil hs
end

/-- a def that keeps its promise, as its callers see it -/
structure Kp (P : Program) (w : World) (K : PySem.W.Frag) (mg : Str → Option Value) (base : Heap) (k : Nat) (x : Str) (ps : List Str) (sp : Sp) : Prop where
  ex : ∃ f fd, FnOk P w K mg base CX0 k f fd ps sp ∧ mg x = some (.ref f) ∧ PySem.W.keepIn K (.ref f) = true ∧ Binds K fd ps [] ∧ ∀ q, ps = [q] → ∀ (s : Shared) (v : Value), BindsTo s fd ⟨[], [(q, v)]⟩ [(q, v)]
section
variable {X : Cx} {k j : Nat} {x q : Str} {ps : List Str} {sp : Sp} {p pos kpos : Pos} {e : Expr} {es : List Expr} {t : TA} {te : TE}
theorem pe_K (h : Kp X.prog X.w X.K X.mg X.base k x ps sp) (hr : Room j X.A) (ha : PA X (e :: es) t) (hkj : k ≤ j := by decide) (hg : Gl X x := by rfl) (hdb : (x == ("__debug__" : Str)) = false := by decide)
    (he : starEach (e :: es) X.env = (false, eval e X.env) :: starEach es X.env := by rfl) (hpl : (backTo pos (starEach es X.env)).any (·.1) = false := by rfl) :
    PE X (.Call (.Name x p) (e :: es) [] pos) (tCall sp [] E0 t) := by
  obtain ⟨f, fd, F, hm, hk, hb, _⟩ := h.ex
  exact pe_call F (hr.mono hkj) hg hm hk hb .nil pass0 ha hdb he hpl
/-- f(q=e) -/
theorem pe_Kw (h : Kp X.prog X.w X.K X.mg X.base k x [q] sp) (hr : Room j X.A) (ha : PE X e te) (hkj : k ≤ j := by decide) (hg : Gl X x := by rfl) (hdb : (x == ("__debug__" : Str)) = false := by decide)
    (hall : (backToKw pos (keywordEach [⟨some q, e, kpos⟩] X.env)).all (·.1.isSome) = true := by rfl) (hks : (backToKw pos (keywordEach [⟨some q, e, kpos⟩] X.env)).filterMap (·.1) = [q] := by rfl)
    (hpl : ((backTo pos (starEach [] X.env)).any (·.1) || (backToKw pos (keywordEach [⟨some q, e, kpos⟩] X.env)).any (·.1.isNone)) = false := by rfl) :
    PE X (.Call (.Name x p) [] [⟨some q, e, kpos⟩] pos) (fun σ H Q => te σ H fun v H1 => sp [v] H1 Q E0) := by
  obtain ⟨f, fd, F, hm, hk, _, hb⟩ := h.ex
  refine ⟨fun pins s σ H Q I hq => ?_⟩
  refine wpAny_Call_Name_kw (ld_glob I hg hm ?_ hdb)
  refine PySem.W.callWith_KW0 (h₀ := X.base) I.ok.mod.kin hk hall (thn ((pk_cons (nm := some q) (kpos := kpos) ha pk_nil).run pos pins s σ H (fun vs H1 => ∃ v, vs = [v] ∧ sp [v] H1 Q E0) I ?_) fun ws s2 ⟨zs, H2, I2, rz, v, ez, q2⟩ => ⟨I2.kIn, ?_⟩) hpl
  · show te σ H fun x1 H1 => tNil σ H1 fun xs H2 => ∃ v, x1 :: xs = [v] ∧ sp [v] H2 Q E0
    have e2 : (fun (x1 : V) (H1 : Hp) => tNil σ H1 fun xs H2 => ∃ v, x1 :: xs = [v] ∧ sp [v] H2 Q E0) = fun v H1 => sp [v] H1 Q E0 := by
      funext x1 H1
      apply propext
      constructor
      · rintro ⟨v, e3, h3⟩
        injection e3 with e3 _
        subst e3
        exact h3
      · intro h3
        exact ⟨x1, rfl, h3⟩
    rw [e2]
    exact hq
  · subst ez
    rw [hks]
    obtain ⟨u, rfl, ru⟩ := vals1 rz
    refine wpAny_call (codeAny_mono (F.run X.A X.stack s2 H2 ⟨[], [(q, u)]⟩ [u] [v] Q E0 (hr.mono hkj) I2.env0 (hb q rfl s2 u) rz q2) fun rr s3 hq3 => ?_)
    cases rr with
    | error e => exact False.elim hq3
    | ok fl =>
      cases fl with
      | ret u => exact I2.after hq3
      | next => exact False.elim hq3
      | brk => exact False.elim hq3
      | cont => exact False.elim hq3
end

/-! ### heaps -/
theorem same_new {H : Hp} {p : Addr} {o : HO} (h : H p = none) : Same H (upd H p o) := fun b x e => by
  rw [upd_ne (ne_of_none e h)]
  exact e
theorem same_set {H1 H : Hp} {p : Addr} {o : HO} (s : Same H1 H) (h : H1 p = none) : Same H1 (upd H p o) := fun b x e => by
  rw [upd_ne (ne_of_none e h)]
  exact s _ _ e
/-- a comprehension over anything that is walked: what its list holds turn by turn -/
theorem lc_go {J : It} {n : Nat} {G : Hp → Prop} {Y : Nat → Hp → V → Hp → Prop} (w : Walk J n G Y) {g : TG} {tt : TT} {te : TE} {vs : List Nat} {σ : L2.St} {H1 : Hp} {D : Addr} {Qd : Hp → Prop} (nD : H1 D = none) (vals : Nat → List V) (h0 : vals 0 = [])
    (hG : ∀ H, Same H1 H → G H) (hlen : ∀ i, i < n → (vals i).length < sizeLine)
    (turn : ∀ i x H H' (N : V → Hp → Prop) (M : Hp → Prop), i < n → Same H1 H → H D = some (.lst (vals i)) → Y i H x H' → (∀ y H4, Same H H4 → vals (i + 1) = vals i ++ [y] → N y H4) → (∀ H3, Same H H3 → vals (i + 1) = vals i → M H3) →
      g x (wipe σ vs) H' fun σ2 H2 => wipe σ2 vs = wipe σ vs ∧ tt σ2 H2 fun b H3 => if b = true then te σ2 H3 N else M H3)
    (done : ∀ H, Same H1 H → H D = some (.lst (vals n)) → Qd H) :
    ∃ W : Nat → Nat → Hp → Prop, (∃ m, W 0 m (upd H1 D (.lst []))) ∧ ∀ i m H, W i m H →
      (J.stop i H ∧ Qd H) ∨ (J.go i H ∧ ∃ Nx : Hp → Prop, (∀ H', Nx H' → ∃ m', m' < m ∧ W (i + 1) m' H') ∧ ∀ x H', J.yld i H x H' → g x (wipe σ vs) H' fun σ2 H2 => wipe σ2 vs = wipe σ vs ∧ tt σ2 H2 fun b H3 =>
        if b = true then te σ2 H3 fun y H4 => ∃ acc, H4 D = some (.lst acc) ∧ acc.length < sizeLine ∧ Nx (upd H4 D (.lst (acc ++ [y]))) else Nx H3) := by
  refine lc_it w (fun i H => Same H1 H ∧ H D = some (.lst (vals i))) ⟨same_new nD, by rw [upd_same, h0]⟩ (fun i H _ p => hG H p.1) (fun i x H H' hi p y => ?_) fun H p => done H p.1 p.2
  refine turn i x H H' _ _ hi p.1 p.2 y (fun z H4 hs hz => ?_) (fun H3 hs hz => ?_)
  · refine ⟨vals i, hs _ _ p.2, hlen i hi, same_set (p.1.trans hs) nD, ?_⟩
    rw [upd_same, hz]
  · exact ⟨p.1.trans hs, by rw [hs _ _ p.2, hz]⟩
section
variable {X : Cx} {K : PySem.W.Frag}
/-! rules that speak of the written part, within a comprehension's block -/
theorem op_inK (h : X.K = K) : OpR X (compareOp .In) (rIn K false) := by
  subst h
  exact op_in_seq
theorem call_isiK2 (h : X.K = K) : CallR X (.builtin "isinstance") (rIsi K) := by
  subst h
  exact call_isi
theorem pg_tupK {es : List Expr} {k : Nat} {t : TGs} {n : Nat} {pos : Pos} (hK : X.K = K) (hc : X.calm = true) (h : PGs X es t)
    (hn : (assignEach es X.env).length = n := by rfl) (hst : (assignEach es X.env).findIdx? (·.1) = none := by rfl) : PG X (.Tuple es k pos) (gTup K n t) := by
  subst hK
  exact pg_tup hc h hn hst
theorem pi_tupK {tg e : Expr} {te : TE} (hK : X.K = K) (he : PE X e te) : PI X tg e (iTup K te) := by
  subst hK
  exact pi_tup he
theorem ix_listK (h : X.K = K) : IxR X (rIxL K) := by
  subst h
  exact ix_list
theorem ix_tupK (h : X.K = K) : IxR X (rIxT K) := by
  subst h
  exact ix_tup
end
theorem int0 (i : Nat) {x : V} (h : x = (fun i => V.int (0 + (i : Int))) i) : x = V.int (i : Int) := by
  rw [h]
  show V.int (0 + (i : Int)) = V.int (i : Int)
  rw [Int.zero_add]
end FW
set_option Elab.async false
set_option linter.all false
set_option maxRecDepth 100000
set_option maxHeartbeats 4000000
/-! values, rounds, and the first defs of dough. -/
namespace FW
open PySem PySem.Spec PyProof.Rows L2
abbrev sInteger : Stmt := top 15
abbrev sBetween : Stmt := top 16
abbrev sPower : Stmt := top 32
abbrev sLettersOk : Stmt := top 34
abbrev sCheckLoop : Stmt := top 35
abbrev sHeights : Stmt := top 36
abbrev sShortest : Stmt := top 37
abbrev sWhole : Stmt := top 38
abbrev sTurns : Stmt := top 39
abbrev sHKey : Stmt := top 40

/-! ### signs and cuts -/
def sg (b : Bool) : Str := ⟨#[if b then 114 else 108]⟩
theorem tx_one (b : Bool) : tx [b] = sg b := rfl
theorem sg_l (b : Bool) : decide (V.str (sg b) = V.str "l") = !b := by
  cases b <;> decide +kernel
theorem tx_get (w : Wd) (i : Nat) : (tx w).cps[i]? = (w[i]?).map fun b => if b then 114 else 108 := by
  show ((w.map fun b => if b then 114 else 108).toArray)[i]? = _
  rw [List.getElem?_toArray, List.getElem?_map]
theorem tx_sign {w : Wd} {i : Nat} {c : Nat} (h : (tx w).cps[i]? = some c) : ∃ b, w[i]? = some b ∧ (⟨#[c]⟩ : Str) = sg b := by
  rw [tx_get] at h
  cases e : w[i]? with
  | none => rw [e] at h; cases h
  | some b =>
    rw [e] at h
    have h1 : (if b then 114 else 108) = c := Option.some.inj h
    exact ⟨b, rfl, by rw [← h1]; rfl⟩
theorem cut_take (f t : Nat) (w : Wd) (k : Nat) : cutS (t2 f t w) none (some (k : Int)) = t2 f t (w.take k) := by
  unfold cutS
  rw [HT.sIx_none, HT.sIx_nat, t2_len, t2_list, List.drop_zero, Nat.sub_zero]
  show (⟨(List.take (min k w.length) (w.map fun b => if b then t else f)).toArray⟩ : Str) = ⟨((w.take k).map fun b => if b then t else f).toArray⟩
  rw [← List.map_take, ← List.take_eq_take_min]
theorem cut_drop (f t : Nat) (w : Wd) (k : Nat) : cutS (t2 f t w) (some (k : Int)) none = t2 f t (w.drop k) := by
  unfold cutS
  rw [HT.sIx_none, HT.sIx_nat, t2_len, t2_list]
  show (⟨(List.take (w.length - min k w.length) (List.drop (min k w.length) (w.map fun b => if b then t else f))).toArray⟩ : Str) = ⟨((w.drop k).map fun b => if b then t else f).toArray⟩
  have e1 : List.drop (min k w.length) (w.map fun b => if b then t else f) = (w.drop k).map fun b => if b then t else f := by
    rw [← List.map_drop]
    congr 1
    by_cases h : k ≤ w.length
    · rw [Nat.min_eq_left h]
    · rw [Nat.min_eq_right (by omega), List.drop_length, List.drop_eq_nil_of_le (by omega)]
  rw [e1, List.take_of_length_le (by rw [List.length_map, List.length_drop]; omega)]
def par : Bool → Wd → Bool
  | p, [] => p
  | p, b :: w => par (p ^^ b) w
theorem hts_snoc : ∀ (p : Bool) (a : Wd) (b : Bool), hts p (a ++ [b]) = hts p a ++ [par p a ^^ b]
  | p, [], b => rfl
  | p, x :: a, b => by
    show (p ^^ x) :: hts (p ^^ x) (a ++ [b]) = (p ^^ x) :: (hts (p ^^ x) a ++ [par (p ^^ x) a ^^ b])
    rw [hts_snoc]
theorem par_snoc : ∀ (p : Bool) (a : Wd) (b : Bool), par p (a ++ [b]) = (par p a ^^ b)
  | p, [], b => rfl
  | p, x :: a, b => par_snoc (p ^^ x) a b
theorem str_b01 (q : Bool) : ((toString (b01 q) : String) : Str) = dg [q] := by
  cases q <;> decide +kernel

section
variable {P : Program} {w : World} {K : PySem.W.Frag} {mg : Str → Option Value} {base : Heap}
/-! ### is_integer, is_between -/
theorem scInteger : FnScope ["value"] ["value"] (defScope sInteger) := ⟨rfl, rfl, rfl, by decide +kernel, rfl, by decide +kernel, by decide +kernel⟩
def spInteger : Sp := fun vs H Q _ => ∃ n : Int, vs = [.int n] ∧ Q (.bl true) H
theorem ok_integer {f : Addr} {fd : FuncData} (F : Fun K "is_integer" "is_integer" sInteger f fd) (G : Glo mg) : FnOk P w K mg base CX0 1 f fd ["value"] spInteger := by
  refine F.ok scInteger (fun vs H Q E h => ?_) (fun cdv A outer s H vs Q E hr h => ?_)
  · obtain ⟨n, rfl, _⟩ := h
    rfl
  · obtain ⟨n, rfl, q⟩ := h
    refine ⟨_, pss_one (ps_ret (pe_and (cB call_isi G.bIsinstance (pa_cons (pv 0) (p1 (pe_bltn (v := .ty "int") (by rfl) G.bInt (by decide +kernel) rfl))))
      (pe_one (pe_not (cB call_isi G.bIsinstance (pa_cons (pv 0) (p1 (pe_bltn (v := .ty "bool") (by rfl) G.bBool (by decide +kernel) rfl)))))))), ?_⟩
    refine ⟨_, rfl, .int n, .ty "int", .type "int", .type "int", true, rfl, .ty _, .base (.int n), kit_ty (by decide +kernel), true, rfl, iteT ?_⟩
    exact ⟨_, rfl, .int n, .ty "bool", .type "int", .type "bool", false, rfl, .ty _, .base (.int n), kit_ty (by decide +kernel), false, rfl, q⟩
theorem scBetween : FnScope ["value", "least", "most"] ["value", "least", "most"] (defScope sBetween) := ⟨rfl, rfl, rfl, by decide +kernel, rfl, by decide +kernel, by decide +kernel⟩
def spBetween : Sp := fun vs H Q _ => ∃ n a b : Int, vs = [.int n, .int a, .int b] ∧ a ≤ n ∧ n ≤ b ∧ Q (.bl true) H
theorem ok_between {f : Addr} {fd : FuncData} (F : Fun K "is_between" "is_between" sBetween f fd) (kI : Kp P w K mg base 1 "is_integer" ["value"] spInteger) : FnOk P w K mg base CX0 2 f fd ["value", "least", "most"] spBetween := by
  refine F.ok scBetween (fun vs H Q E h => ?_) (fun cdv A outer s H vs Q E hr h => ?_)
  · obtain ⟨n, a, b, rfl, _⟩ := h
    rfl
  · obtain ⟨n, a, b, rfl, h1, h2, q⟩ := h
    refine ⟨_, pss_one (ps_ret (pe_and (pe_K kI hr (p1 (pv 0))) (pe_one (pe_chain op_le op_le (pv 1) (pv 0) (pv 2))))), ?_⟩
    refine ⟨_, rfl, n, rfl, true, rfl, iteT ?_⟩
    refine ⟨_, rfl, _, rfl, _, _, rfl, rfl, true, (by show V.bl (decide (a ≤ n)) = V.bl true; rw [decide_eq_true h1]), iteT ?_⟩
    refine ⟨_, rfl, _, _, rfl, rfl, ?_⟩
    show Q (V.bl (decide (n ≤ b))) H
    rw [decide_eq_true h2]
    exact q

/-! ### power -/
theorem scPower : FnScope ["worth", "many", "found", "turn"] ["worth", "many"] (defScope sPower) := ⟨rfl, rfl, rfl, by decide +kernel, rfl, by decide +kernel, by decide +kernel⟩
def spPower : Sp := fun vs H Q _ => ∃ n : Nat, vs = [.int 2, .int (n : Int)] ∧ n ≤ 1000 ∧ Q (.int (2 ^ n)) H
theorem ok_power {f : Addr} {fd : FuncData} (F : Fun K "power" "power" sPower f fd) (G : Glo mg) : FnOk P w K mg base CX0 1 f fd ["worth", "many"] spPower := by
  refine F.ok scPower (fun vs H Q E h => ?_) (fun cdv A outer s H vs Q E hr h => ?_)
  · obtain ⟨n, rfl, _⟩ := h
    rfl
  · obtain ⟨n, rfl, hn, q⟩ := h
    refine ⟨_, pss_cons (ps_set (i := 2) scPower.nd rfl (.inl rfl) pe_int) (pss_cons (ps_for PassesOwn.never rfl (pi_range1 (by rfl) G.bRange (p1 (pv 1))) (pg_name (i := 3) scPower.nd rfl (.inl rfl))
      (pss_one (ps_set (i := 2) scPower.nd rfl (.inl rfl) (pe_op op_mul (pv 2) (pv 0))))) (pss_one (ps_ret (pv 2)))), ?_⟩
    refine ⟨_, rfl, (n : Int), rfl, by omega, by omega, ?_⟩
    rw [Int.toNat_natCast]
    refine for_range (fun i σ H' => H' = H ∧ ∃ y, σ = [some (.int 2), some (.int (n : Int)), some (.int (2 ^ i)), y]) ⟨rfl, none, rfl⟩ ?_ ?_
    · rintro i σ H' hi ⟨rfl, y, rfl⟩
      refine ⟨_, rfl, _, rfl, _, _, rfl, rfl, .inr ⟨by decide, by decide⟩, rfl, some (.int (0 + (i : Int))), ?_⟩
      rw [Int.pow_succ]
      rfl
    · rintro σ H' ⟨rfl, y, rfl⟩
      exact ⟨_, rfl, q⟩

/-! ### heights_of, height_key -/
theorem scHeights : FnScope ["letters", "found", "height", "letter"] ["letters"] (defScope sHeights) := ⟨rfl, rfl, rfl, by decide +kernel, rfl, by decide +kernel, by decide +kernel⟩
def spHeights : Sp := fun vs H Q _ => ∃ v : Wd, vs = [.str (tx v)] ∧ v.length ≤ 1000 ∧ ∀ H', Same H H' → Q (.str (dg (hts false v))) H'
theorem take_snoc {v : Wd} {i : Nat} {b : Bool} (h : v[i]? = some b) : v.take (i + 1) = v.take i ++ [b] := by
  rw [List.take_add_one, h]
  rfl
theorem tx_size (v : Wd) : (tx v).cps.size = v.length := t2_len _ _ v
theorem ok_heights {f : Addr} {fd : FuncData} (F : Fun K "heights_of" "heights_of" sHeights f fd) (G : Glo mg) : FnOk P w K mg base CX0 1 f fd ["letters"] spHeights := by
  refine F.ok scHeights (fun vs H Q E h => ?_) (fun cdv A outer s H vs Q E hr h => ?_)
  · obtain ⟨v, rfl, _⟩ := h
    rfl
  · obtain ⟨v, rfl, hv, q⟩ := h
    refine ⟨_, pss_cons (ps_asg (pe_tup (pa_cons pe_str (p1 pe_int))) (pg_tup rfl (pgs_cons (pg_name (i := 1) scHeights.nd rfl (.inl rfl)) (pgs_cons (pg_name (i := 2) scHeights.nd rfl (.inl rfl)) pgs_nil))))
      (pss_cons (ps_for PassesOwn.never rfl (pi_str (pv 0)) (pg_name (i := 3) scHeights.nd rfl (.inl rfl))
        (pss_cons (ps_set (i := 2) scHeights.nd rfl (.inl rfl) (pe_ifExp (pt_cmpR op_eq (pv 3) pe_str (nomark _)) (pv 2) (pe_op op_sub pe_int (pv 2))))
          (pss_one (ps_set (i := 1) scHeights.nd rfl (.inl rfl) (pe_op op_add_str (pv 1) (cT call_str_int G.bStr (p1 (pv 2))))))))
        (pss_one (ps_ret (pv 1)))), ?_⟩
    refine ⟨by show 2 ≤ sizeLine; decide, fun p np => ⟨p, _, rfl, SqT.of upd_same, rfl, _, _, rfl, _, _, rfl, rfl, ?_⟩⟩
    refine ⟨_, rfl, _, rfl, for_it walk_str (fun i σ H' => Same H H' ∧ ∃ y, σ = [some (.str (tx v)), some (.str (dg (hts false (v.take i)))), some (.int (b01 (par false (v.take i)))), y]) ⟨same_new np, none, rfl⟩ (fun _ _ _ _ _ => trivial) ?_ ?_⟩
    · rintro i x σ H1 H2 hi ⟨sm, y, rfl⟩ ⟨rfl, c, hc, rfl⟩
      obtain ⟨b, hb, ec⟩ := tx_sign hc
      rw [ec]
      have e1 := take_snoc hb
      have e2 : hts false (v.take (i + 1)) = hts false (v.take i) ++ [par false (v.take i) ^^ b] := by rw [e1, hts_snoc]
      have e3 : par false (v.take (i + 1)) = (par false (v.take i) ^^ b) := by rw [e1, par_snoc]
      refine ⟨_, rfl, rfl, _, rfl, ?_⟩
      rw [sg_l]
      have fin : ∀ z : Int, z = b01 (par false (v.take i) ^^ b) → ((toString z : String) : Str) = dg [par false (v.take i) ^^ b] ∧ z.natAbs.log2 < 1920 := fun z hz => by
        rw [hz]
        exact ⟨str_b01 _, by cases (par false (v.take i) ^^ b) <;> decide⟩
      have hlen : (dg (hts false (v.take i))).length + (dg [par false (v.take i) ^^ b]).length ≤ sizeLine := by
        rw [t2_len, t2_len, hts_len, List.length_take, sizeLine_eq]
        simp only [List.length_singleton]
        omega
      cases b with
      | false =>
        refine iteT ?_
        refine ⟨_, rfl, _, rfl, _, rfl, _, rfl, (fin _ (by simp)).2, _, _, rfl, rfl, ?_, sm, some (.str (sg false)), ?_⟩
        · rw [(fin _ (by simp)).1]
          exact hlen
        · rw [(fin _ (by simp)).1, t2_app, e2, e3, Bool.xor_false]
          rfl
      | true =>
        refine iteF ?_
        have ez : (1 : Int) - b01 (par false (v.take i)) = b01 (par false (v.take i) ^^ true) := by cases par false (v.take i) <;> rfl
        refine ⟨_, rfl, _, _, rfl, rfl, _, rfl, _, rfl, _, rfl, (fin _ ez).2, _, _, rfl, rfl, ?_, sm, some (.str (sg true)), ?_⟩
        · rw [(fin _ ez).1]
          exact hlen
        · rw [(fin _ ez).1, t2_app, e2, e3, ← ez]
          rfl
    · rintro σ H1 ⟨sm, y, rfl⟩
      rw [tx_size, List.take_length]
      exact ⟨_, rfl, q H1 sm⟩
theorem scHKey : FnScope ["loop"] ["loop"] (defScope sHKey) := ⟨rfl, rfl, rfl, by decide +kernel, rfl, by decide +kernel, by decide +kernel⟩
def spHKey : Sp := fun vs H Q _ => ∃ v : Wd, vs = [.str (tx v)] ∧ v.length ≤ 400 ∧ ∀ H', Same H H' → Q (.str (dg (hk v))) H'
theorem ok_hkey {f : Addr} {fd : FuncData} (F : Fun K "height_key" "height_key" sHKey f fd) (kH : Kp P w K mg base 1 "heights_of" ["letters"] spHeights) : FnOk P w K mg base CX0 2 f fd ["loop"] spHKey := by
  refine F.ok scHKey (fun vs H Q E h => ?_) (fun cdv A outer s H vs Q E hr h => ?_)
  · obtain ⟨v, rfl, _⟩ := h
    rfl
  · obtain ⟨v, rfl, hv, q⟩ := h
    refine ⟨_, pss_one (ps_ret (pe_K kH hr (p1 (pe_op op_add_str (pv 0) (pv 0))))), ?_⟩
    refine ⟨_, rfl, _, rfl, _, _, rfl, rfl, ?_, v ++ v, ?_, ?_, q⟩
    · rw [t2_len, sizeLine_eq]
      omega
    · rw [t2_app]
      rfl
    · rw [List.length_append]
      omega
end
end FW
set_option Elab.async false
set_option linter.all false
set_option maxRecDepth 100000
set_option maxHeartbeats 4000000
/-! dough: letters, loops, turns. -/
namespace FW
open PySem PySem.Spec PyProof.Rows L2
theorem in_lr (b : Bool) : inV (V.str (sg b)) [.str "l", .str "r"] = true := by
  cases b <;> decide +kernel
theorem tx_empty {v : Wd} (h : v ≠ []) : decide (V.str (tx v) = V.str "") = false := by
  refine decide_eq_false fun e => h ?_
  have e1 : tx v = ("" : Str) := V.str.inj e
  have e2 : (tx v).length = ("" : Str).length := by rw [e1]
  rw [t2_len] at e2
  exact List.eq_nil_of_length_eq_zero e2
theorem wd_line {v : Wd} (h : v.length ≤ 1000) : (tx v).length ≤ sizeLine := by
  rw [t2_len, sizeLine_eq]
  omega
theorem dec_tx (u v : Wd) : decide (V.str (tx u) = V.str (tx v)) = (u == v) := by
  by_cases e : u = v
  · subst e
    simp
  · rw [decide_eq_false fun z => e (tx_inj (V.str.inj z))]
    simp [e]
section
variable {P : Program} {w : World} {K : PySem.W.Frag} {mg : Str → Option Value} {base : Heap}
theorem scLettersOk : FnScope ["value", "letter"] ["value"] (defScope sLettersOk) := ⟨rfl, rfl, rfl, by decide +kernel, rfl, by decide +kernel, by decide +kernel⟩
def spLettersOk : Sp := fun vs H Q _ => ∃ v : Wd, vs = [.str (tx v)] ∧ v.length ≤ 40 ∧ ∀ H', Same H H' → Q (.bl true) H'
theorem ok_lettersOk {f : Addr} {fd : FuncData} (F : Fun K "are_letters" "are_letters" sLettersOk f fd) (G : Glo mg) : FnOk P w K mg base CX0 1 f fd ["value"] spLettersOk := by
  refine F.ok scLettersOk (fun vs H Q E h => ?_) (fun cdv A outer s H vs Q E hr h => ?_)
  · obtain ⟨v, rfl, _⟩ := h
    rfl
  · obtain ⟨v, rfl, hv, q⟩ := h
    refine ⟨_, pss_one (ps_ret (pe_and (cB call_isi G.bIsinstance (pa_cons (pv 0) (p1 (pe_bltn (v := .ty "str") (by rfl) G.bStr (by decide +kernel) rfl))))
      (pe_and (pe_cmpR op_le (cB call_len_str G.bLen (p1 (pv 0))) (pe_cint G.cLetters) (nomark _))
        (pe_one (cB (cr_all rfl) G.bAll (p1 (pe_lc (own := [("letter", 1)]) (g := gName 1) (tt := tYes) rfl scLettersOk.nd (pi_str (pv 0)) (blkOk_by (N := ["value", "letter"]) (sc := defScope sLettersOk) (by decide +kernel))
          (fun _ _ _ _ _ => pg_name (i := 1) scLettersOk.nd rfl (Or.inl rfl)) (fun _ _ _ _ _ => pts_nil)
          (fun _ _ _ _ _ => pe_cmpR (op_inK (K := K) rfl) (pv 1) (pe_tup (pa_cons pe_str (p1 pe_str))) (by rfl))))))))), ?_⟩
    refine ⟨_, rfl, .str (tx v), .ty "str", .type "str", .type "str", true, rfl, .ty _, .base (.str _), kit_ty (by decide +kernel), true, rfl, iteT ?_⟩
    refine ⟨_, rfl, _, rfl, wd_line (by omega), _, _, rfl, rfl, true, ?_, iteT ?_⟩
    · show V.bl (decide (((tx v).length : Int) ≤ 40)) = V.bl true
      rw [t2_len, decide_eq_true (by omega)]
    refine ⟨_, rfl, _, rfl, fun D nD => lc_go walk_str nD (fun i => (List.replicate i true).map V.bl) rfl (fun _ _ => trivial) (fun i hi => ?_) ?_ ?_⟩
    · rw [List.length_map, List.length_replicate, sizeLine_eq]
      rw [tx_size] at hi
      omega
    · rintro i x H1 H2 N M hi sm hD ⟨rfl, c, hc, rfl⟩ hN _
      obtain ⟨b, hb, ec⟩ := tx_sign hc
      rw [ec]
      refine ⟨rfl, ?_⟩
      refine ⟨_, rfl, by show 2 ≤ sizeLine; decide, fun T nT => ⟨T, _, rfl, .inr (SqT.of upd_same), rfl, rfl, ?_⟩⟩
      show N (V.bl (inV (V.str (sg b)) [.str "l", .str "r"])) _
      rw [in_lr]
      refine hN _ _ (same_new nT) ?_
      rw [List.replicate_succ', List.map_append]
      rfl
    · intro H2 sm hD
      refine ⟨D, _, rfl, SqL.of hD, ?_⟩
      have e : (List.replicate (tx v).cps.size true).all id = true := by rw [List.all_eq_true]; intro x hx; rw [List.eq_of_mem_replicate hx]; rfl
      rw [e]
      exact q H2 sm
theorem scCheckLoop : FnScope ["loop"] ["loop"] (defScope sCheckLoop) := ⟨rfl, rfl, rfl, by decide +kernel, rfl, by decide +kernel, by decide +kernel⟩
def spCheckLoop : Sp := fun vs H Q _ => ∃ v : Wd, vs = [.str (tx v)] ∧ v ≠ [] ∧ v.length ≤ 40 ∧ ∀ H', Same H H' → Q .non H'
theorem ok_checkLoop {f : Addr} {fd : FuncData} (F : Fun K "check_loop" "check_loop" sCheckLoop f fd) (kA : Kp P w K mg base 1 "are_letters" ["value"] spLettersOk) : FnOk P w K mg base CX0 2 f fd ["loop"] spCheckLoop := by
  refine F.ok scCheckLoop (fun vs H Q E h => ?_) (fun cdv A outer s H vs Q E hr h => ?_)
  · obtain ⟨v, rfl, _⟩ := h
    rfl
  · obtain ⟨v, rfl, h0, hv, q⟩ := h
    refine ⟨_, pss_one (ps_if (PW.pt (pw_or (pt_not (pt_val (pe_K kA hr (p1 (pv 0))))) (pw_or1 (pt_cmpR op_eq (pv 0) pe_str (nomark _))))) (pss_one ps_never) pss_nil), ?_⟩
    refine ⟨_, rfl, v, rfl, hv, fun H2 sm => ⟨true, rfl, iteF ?_⟩⟩
    refine ⟨_, rfl, rfl, _, rfl, ?_⟩
    rw [tx_empty h0]
    exact iteF (q H2 sm)

/-! ### shortest_loop, is_whole_round -/
theorem scShortest : FnScope ["loop", "size"] ["loop"] (defScope sShortest) := ⟨rfl, rfl, rfl, by decide +kernel, rfl, by decide +kernel, by decide +kernel⟩
def spShortest : Sp := fun vs H Q _ => ∃ v : Wd, vs = [.str (tx v)] ∧ v ≠ [] ∧ v.length ≤ 100 ∧ ∀ u, ((u == v) = isR v) → Q (.str (tx u)) H
theorem dec_mod (n k : Nat) : decide (V.int ((n : Int) % (k : Int)) = V.int 0) = (n % k == 0) := by
  have e : (n : Int) % (k : Int) = ((n % k : Nat) : Int) := by omega
  rw [e]
  by_cases h : n % k = 0
  · rw [h]
    simp
  · rw [decide_eq_false (fun z => h (by have := V.int.inj z; omega))]
    simp [h]
theorem ok_shortest {f : Addr} {fd : FuncData} (F : Fun K "shortest_loop" "shortest_loop" sShortest f fd) (G : Glo mg) : FnOk P w K mg base CX0 1 f fd ["loop"] spShortest := by
  refine F.ok scShortest (fun vs H Q E h => ?_) (fun cdv A outer s H vs Q E hr h => ?_)
  · obtain ⟨v, rfl, _⟩ := h
    rfl
  · obtain ⟨v, rfl, h0, hv, q⟩ := h
    have hpos : 0 < v.length := List.length_pos_iff.mpr h0
    refine ⟨_, pss_cons (ps_for PassesOwn.never rfl (pi_range2 (by rfl) G.bRange (pa_cons pe_int (p1 (pe_op op_add (cB call_len_str G.bLen (p1 (pv 0))) pe_int)))) (pg_name (i := 1) scShortest.nd rfl (.inl rfl))
      (pss_one (ps_if (PW.pt (pw_and (pt_cmpR op_eq (pe_op op_mod (cB call_len_str G.bLen (p1 (pv 0))) (pv 1)) pe_int (nomark _))
          (pw_and1 (pt_cmpR op_eq (pe_op op_mulS (pe_slice sl_str (pv 0) po_none (po_some (pv 1))) (pe_op op_fdivN (cB call_len_str G.bLen (p1 (pv 0))) (pv 1))) (pv 0) (nomark _)))))
        (pss_one (ps_ret (pe_slice sl_str (pv 0) po_none (po_some (pv 1))))) pss_nil)))
      (pss_one (ps_ret (pv 0))), ?_⟩
    have hline : (tx v).length ≤ sizeLine := wd_line (by omega)
    refine ⟨_, rfl, _, rfl, hline, _, _, rfl, rfl, 1, ((tx v).length : Int) + 1, rfl, ⟨by omega, by omega, by rw [t2_len]; omega, by rw [t2_len]; omega⟩, ?_⟩
    rw [t2_len, show ((v.length : Int) + 1 - 1).toNat = v.length by omega]
    refine for_range (fun i σ H' => H' = H ∧ (∃ y, σ = [some (.str (tx v)), y]) ∧ ∀ k, 1 ≤ k → k ≤ i → saidBy v k = false) ⟨rfl, ⟨none, rfl⟩, fun k h1 h2 => by omega⟩ ?_ ?_
    · rintro i σ H' hi ⟨rfl, ⟨y, rfl⟩, hno⟩
      have es : (1 : Int) + (i : Int) = ((i + 1 : Nat) : Int) := by omega
      rw [es]
      refine ⟨_, rfl, _, rfl, hline, _, rfl, _, _, rfl, rfl, ?_, rfl, _, rfl, ?_⟩
      · show (0 : Int) < ((i + 1 : Nat) : Int)
        omega
      rw [t2_len, dec_mod]
      have go : saidBy v (i + 1) = false → (∀ k, 1 ≤ k → k ≤ i + 1 → saidBy v k = false) := fun hs k h1 h2 => by
        by_cases hk : k ≤ i
        · exact hno k h1 hk
        · rw [show k = i + 1 by omega]
          exact hs
      by_cases hd : v.length % (i + 1) = 0
      · rw [show (v.length % (i + 1) == 0) = true by simp [hd]]
        refine iteT ?_
        have ediv : ((v.length : Int)).fdiv ((i + 1 : Nat) : Int) = ((v.length / (i + 1) : Nat) : Int) := by
          rw [Int.fdiv_eq_ediv_of_nonneg _ (by omega)]
          omega
        have hle : v.length / (i + 1) ≤ 1000 := Nat.le_trans (Nat.div_le_self _ _) (by omega)
        refine ⟨_, rfl, _, rfl, _, rfl, _, rfl, hline, ?_⟩
        rw [cut_take]
        refine ⟨_, rfl, _, rfl, hline, _, rfl, _, _, rfl, rfl, ⟨by omega, by omega⟩, _, v.length / (i + 1), rfl, ?_, ?_, hle, ?_⟩
        · rw [t2_len]
          exact congrArg V.int ediv
        · rw [t2_len, List.length_take]
          omega
        rw [mul_t2]
        refine ⟨_, rfl, rfl, _, rfl, ?_⟩
        rw [dec_tx]
        cases hs : (rep (v.take (i + 1)) (v.length / (i + 1)) == v) with
        | true =>
          refine iteT ⟨_, rfl, _, rfl, _, rfl, _, rfl, hline, ?_⟩
          rw [cut_take]
          have hsaid : saidBy v (i + 1) = true := by
            unfold saidBy
            rw [hs]
            simp [hd]
          refine q _ ?_
          by_cases hn : i + 1 < v.length
          · have hR : isR v = false := by
              unfold isR
              rw [Bool.not_eq_false', List.any_eq_true]
              exact ⟨i + 1, List.mem_range'_1.mpr ⟨by omega, by omega⟩, hsaid⟩
            rw [hR]
            refine beq_eq_false_iff_ne.mpr fun e => ?_
            have el := congrArg List.length e
            rw [List.length_take] at el
            omega
          · have hn2 : i + 1 = v.length := by omega
            have hR : isR v = true := by
              unfold isR
              rw [Bool.not_eq_true', List.any_eq_false]
              intro k hk
              obtain ⟨k1, k2⟩ := List.mem_range'_1.mp hk
              rw [hno k k1 (by omega)]
              exact Bool.false_ne_true
            rw [hR, hn2, List.take_length]
            simp
        | false =>
          refine iteF ⟨rfl, ⟨_, rfl⟩, go ?_⟩
          unfold saidBy
          rw [hs, Bool.and_false]
      · rw [show (v.length % (i + 1) == 0) = false by simp [hd]]
        refine iteF (iteF ⟨rfl, ⟨_, rfl⟩, go ?_⟩)
        unfold saidBy
        rw [show (v.length % (i + 1) == 0) = false by simp [hd], Bool.false_and]
    · rintro σ H' ⟨rfl, ⟨y, rfl⟩, hno⟩
      have hs := hno v.length hpos (Nat.le_refl _)
      unfold saidBy at hs
      rw [Nat.mod_self, List.take_length, Nat.div_self hpos, rep_succ, rep_zero, List.append_nil] at hs
      simp at hs
theorem scWhole : FnScope ["loop"] ["loop"] (defScope sWhole) := ⟨rfl, rfl, rfl, by decide +kernel, rfl, by decide +kernel, by decide +kernel⟩
def spWhole : Sp := fun vs H Q _ => ∃ v : Wd, vs = [.str (tx v)] ∧ v ≠ [] ∧ v.length ≤ 100 ∧ Q (.bl (isR v)) H
theorem ok_whole {f : Addr} {fd : FuncData} (F : Fun K "is_whole_round" "is_whole_round" sWhole f fd) (kS : Kp P w K mg base 1 "shortest_loop" ["loop"] spShortest) : FnOk P w K mg base CX0 2 f fd ["loop"] spWhole := by
  refine F.ok scWhole (fun vs H Q E h => ?_) (fun cdv A outer s H vs Q E hr h => ?_)
  · obtain ⟨v, rfl, _⟩ := h
    rfl
  · obtain ⟨v, rfl, h0, hv, q⟩ := h
    refine ⟨_, pss_one (ps_ret (pe_cmpR op_eq (pe_K kS hr (p1 (pv 0))) (pv 0) (nomark _))), ?_⟩
    refine ⟨_, rfl, v, rfl, h0, hv, fun u hu => ⟨_, rfl, rfl, ?_⟩⟩
    show Q (V.bl (decide (V.str (tx u) = V.str (tx v)))) H
    rw [dec_tx, hu]
    exact q

/-! ### turns_of -/
theorem scTurns : FnScope ["loop", "index"] ["loop"] (defScope sTurns) := ⟨rfl, rfl, rfl, by decide +kernel, rfl, by decide +kernel, by decide +kernel⟩
def spTurns : Sp := fun vs H Q _ => ∃ v : Wd, vs = [.str (tx v)] ∧ v.length ≤ 400 ∧ ∀ H' p, Same H H' → H p = none → H' p = some (.lst ((turns v).map fun u => V.str (tx u))) → Q (.ref p) H'
theorem ok_turns {f : Addr} {fd : FuncData} (F : Fun K "turns_of" "turns_of" sTurns f fd) (G : Glo mg) : FnOk P w K mg base CX0 1 f fd ["loop"] spTurns := by
  refine F.ok scTurns (fun vs H Q E h => ?_) (fun cdv A outer s H vs Q E hr h => ?_)
  · obtain ⟨v, rfl, _⟩ := h
    rfl
  · obtain ⟨v, rfl, hv, q⟩ := h
    have hline : (tx v).length ≤ sizeLine := wd_line (by omega)
    refine ⟨_, pss_one (ps_ret (pe_lc (own := [("index", 1)]) (g := gName 1) (tt := tYes) rfl scTurns.nd (pi_range1 (by rfl) G.bRange (p1 (cB call_len_str G.bLen (p1 (pv 0))))) (blkOk_by (N := ["loop", "index"]) (sc := defScope sTurns) (by decide +kernel))
          (fun _ _ _ _ _ => pg_name (i := 1) scTurns.nd rfl (Or.inl rfl)) (fun _ _ _ _ _ => pts_nil)
          (fun _ _ _ _ _ => pe_op op_add_str (pe_slice sl_str (pv 0) (po_some (pv 1)) po_none) (pe_slice sl_str (pv 0) po_none (po_some (pv 1)))))), ?_⟩
    refine ⟨_, rfl, _, rfl, hline, ((tx v).length : Int), rfl, by omega, by rw [t2_len]; omega, ?_⟩
    rw [t2_len, Int.toNat_natCast]
    refine fun D nD => lc_go walk_range nD (fun i => (((List.range v.length).take i).map fun k => V.str (tx (rot k v)))) rfl (fun _ _ => trivial) (fun i hi => ?_) ?_ ?_
    · rw [List.length_map, List.length_take, List.length_range, sizeLine_eq]
      omega
    · rintro i x H1 H2 N M hi sm hD ⟨rfl, hx⟩ hN _
      obtain rfl := int0 i hx
      refine ⟨rfl, ?_⟩
      refine ⟨_, rfl, _, rfl, _, rfl, _, rfl, hline, ?_⟩
      refine ⟨_, rfl, _, rfl, _, rfl, _, rfl, hline, ?_⟩
      rw [cut_drop, cut_take]
      refine ⟨_, _, rfl, rfl, ?_, ?_⟩
      · rw [t2_len, t2_len, List.length_drop, List.length_take, sizeLine_eq]
        omega
      · rw [t2_app]
        refine hN _ _ (Same.refl _) ?_
        rw [List.take_add_one, List.getElem?_range hi, List.map_append]
        rfl
    · intro H2 sm hD
      rw [List.take_of_length_le (by rw [List.length_range]; omega)] at hD
      refine q H2 D sm nD ?_
      rw [hD]
      unfold turns
      rw [List.map_map]
      rfl
end
end FW
set_option Elab.async false
set_option linter.all false
set_option maxRecDepth 100000
set_option maxHeartbeats 4000000
/-! dough: the greatest turn. -/
namespace FW
open PySem PySem.Spec PyProof.Rows L2
open PySem.W (EachIs)
abbrev sGreatest : Stmt := top 41
abbrev sCheckRound : Stmt := top 45
abbrev sIsRound : Stmt := top 46
abbrev sGreatestTurn : Stmt := top 47

/-- tuples stand -/
def TupKept (H H' : Hp) : Prop := ∀ b xs, H b = some (.tup xs) → H' b = some (.tup xs)
theorem TupKept.same {H H' : Hp} (h : Same H H') : TupKept H H' := fun b xs e => h b _ e
theorem TupKept.lst {H : Hp} {D : Addr} {acc acc' : List V} (h : H D = some (.lst acc)) : TupKept H (upd H D (.lst acc')) := fun b xs e => by
  rw [upd_ne (ne_of e h (by intro z; cases z))]
  exact e
/-- a comprehension whose items are told by a relation that leans on tuples alone -/
theorem lc_goR {J : It} {n : Nat} {G : Hp → Prop} {Y : Nat → Hp → V → Hp → Prop} (w : Walk J n G Y) {g : TG} {tt : TT} {te : TE} {vs : List Nat} {σ : L2.St} {H1 : Hp} {D : Addr} {Qd : Hp → Prop} (nD : H1 D = none) (R : Nat → Hp → List V → Prop) (h0 : ∀ H, R 0 H [])
    (hG : ∀ H, Same H1 H → G H) (hR : ∀ i H H' acc, TupKept H H' → R i H acc → R i H' acc) (hlen : ∀ i H acc, i < n → R i H acc → acc.length < sizeLine)
    (turn : ∀ i x H H' acc (N : V → Hp → Prop) (M : Hp → Prop), i < n → Same H1 H → H D = some (.lst acc) → R i H acc → Y i H x H' → (∀ y H4, Same H H4 → R (i + 1) H4 (acc ++ [y]) → N y H4) → (∀ H3, Same H H3 → R (i + 1) H3 acc → M H3) →
      g x (wipe σ vs) H' fun σ2 H2 => wipe σ2 vs = wipe σ vs ∧ tt σ2 H2 fun b H3 => if b = true then te σ2 H3 N else M H3)
    (done : ∀ H acc, Same H1 H → H D = some (.lst acc) → R n H acc → Qd H) :
    ∃ W : Nat → Nat → Hp → Prop, (∃ m, W 0 m (upd H1 D (.lst []))) ∧ ∀ i m H, W i m H →
      (J.stop i H ∧ Qd H) ∨ (J.go i H ∧ ∃ Nx : Hp → Prop, (∀ H', Nx H' → ∃ m', m' < m ∧ W (i + 1) m' H') ∧ ∀ x H', J.yld i H x H' → g x (wipe σ vs) H' fun σ2 H2 => wipe σ2 vs = wipe σ vs ∧ tt σ2 H2 fun b H3 =>
        if b = true then te σ2 H3 fun y H4 => ∃ acc, H4 D = some (.lst acc) ∧ acc.length < sizeLine ∧ Nx (upd H4 D (.lst (acc ++ [y]))) else Nx H3) := by
  refine lc_it w (fun i H => Same H1 H ∧ ∃ acc, H D = some (.lst acc) ∧ R i H acc) ⟨same_new nD, [], upd_same, h0 _⟩ (fun i H _ p => hG H p.1) (fun i x H H' hi p y => ?_) fun H p => ?_
  · obtain ⟨p1, acc, p2, p3⟩ := p
    refine turn i x H H' acc _ _ hi p1 p2 p3 y (fun z H4 hs hz => ?_) (fun H3 hs hz => ?_)
    · have e4 := hs _ _ p2
      exact ⟨acc, e4, hlen i H acc hi p3, same_set (p1.trans hs) nD, acc ++ [z], upd_same, hR _ _ _ _ (TupKept.lst e4) hz⟩
    · exact ⟨p1.trans hs, acc, hs _ _ p2, hz⟩
  · obtain ⟨p1, acc, p2, p3⟩ := p
    exact done H acc p1 p2 p3

/-- the pair of a key and a word -/
def IsPairW (H : Hp) (x : V) (u : Wd) : Prop := ∃ p, x = V.ref p ∧ H p = some (.tup [.str (dg (hk u)), .str (tx u)])
theorem IsPairW.kept {H H' : Hp} {x : V} {u : Wd} (k : TupKept H H') (h : IsPairW H x u) : IsPairW H' x u := by
  obtain ⟨p, e1, e2⟩ := h
  exact ⟨p, e1, k _ _ e2⟩
theorem IsPairW.dp {K : PySem.W.Frag} {H : Hp} {x : V} {u : Wd} (h : IsPairW H x u) : Dp K H x (pairD u) := by
  obtain ⟨p, rfl, e2⟩ := h
  exact .tup (SqT.of e2) (.cons (.str _) (.cons (.str _) .nil))
theorem pairs_dp {K : PySem.W.Frag} {H : Hp} : ∀ {acc : List V} {l : List Wd}, EachIs (IsPairW H) acc l → DpAll K H acc (l.map pairD)
  | _, _, .nil => .nil
  | _, _, .cons h t => .cons h.dp (pairs_dp t)
theorem each_get {α β : Type} {R : α → β → Prop} : ∀ {as : List α} {bs : List β} {i : Nat} {a : α}, EachIs R as bs → as[i]? = some a → ∃ b, bs[i]? = some b ∧ R a b
  | _, _, _, _, .nil, h => by simp at h
  | _, _, 0, _, .cons h _, e => by
    have e1 := Option.some.inj e
    subst e1
    exact ⟨_, rfl, h⟩
  | _, _, i + 1, _, .cons _ t, e => each_get (i := i) t e
theorem pairD_inj {u v : Wd} (h : pairD u = pairD v) : u = v := by
  unfold pairD at h
  injection h with h
  injection h with _ h
  injection h with h _
  injection h with h
  exact tx_inj h
theorem pairs_depth : ∀ l : List Wd, PyData.depthAll (l.map pairD) ≤ 1
  | [] => by simp [PyData.depthAll]
  | u :: l => by
    rw [List.map_cons, PyData.depthAll, pairD_depth]
    have := pairs_depth l
    omega
theorem pairs_alike (l : List Wd) : PySem.W.AlikeAll (l.map pairD) := by
  refine ⟨fun x hx y hy => ?_, fun x hx => ?_⟩
  · obtain ⟨u, _, rfl⟩ := List.mem_map.mp hx
    obtain ⟨v, _, rfl⟩ := List.mem_map.mp hy
    exact pairD_alike u v
  · obtain ⟨u, _, rfl⟩ := List.mem_map.mp hx
    unfold pairD
    intro z
    cases z
section
variable {P : Program} {w : World} {K : PySem.W.Frag} {mg : Str → Option Value} {base : Heap}
theorem scGreatest : FnScope ["loop", "turn"] ["loop"] (defScope sGreatest) := ⟨rfl, rfl, rfl, by decide +kernel, rfl, by decide +kernel, by decide +kernel⟩
def spGreatest : Sp := fun vs H Q _ => ∃ v : Wd, vs = [.str (tx v)] ∧ v ≠ [] ∧ v.length ≤ 200 ∧ ∀ H', Same H H' → Q (.str (tx (great v))) H'
theorem ok_greatest {f : Addr} {fd : FuncData} (F : Fun K "greatest_by" "greatest_by" sGreatest f fd) (G : Glo mg) (kT : Kp P w K mg base 1 "turns_of" ["loop"] spTurns) (kK : Kp P w K mg base 2 "height_key" ["loop"] spHKey) : FnOk P w K mg base CX0 3 f fd ["loop"] spGreatest := by
  refine F.ok scGreatest (fun vs H Q E h => ?_) (fun cdv A outer s H vs Q E hr h => ?_)
  · obtain ⟨v, rfl, _⟩ := h
    rfl
  · obtain ⟨v, rfl, h0, hv, q⟩ := h
    refine ⟨_, pss_one (ps_ret (pe_ix ix_tup (cB (cr_maxDt hr) G.bMax (p1 (pe_lc (own := [("turn", 1)]) (g := gName 1) (tt := tYes) rfl scGreatest.nd (pi_list (pe_K kT hr (p1 (pv 0)))) (blkOk_by (N := ["loop", "turn"]) (sc := defScope sGreatest) (by decide +kernel))
          (fun _ _ _ _ _ => pg_name (i := 1) scGreatest.nd rfl (Or.inl rfl)) (fun _ _ _ _ _ => pts_nil)
          (fun _ _ _ _ _ => pe_tup (pa_cons (pe_K kK hr (p1 (pv 1))) (p1 (pv 1))))))) pe_int (fun _ _ => rfl))), ?_⟩
    refine ⟨_, rfl, v, rfl, by omega, fun H1 p sm np hp => ⟨p, rfl, ⟨_, SqL.of hp⟩, fun D nD => ?_⟩⟩
    refine lc_goR (walk_list (K := K) (a := p) (xs := (turns v).map fun u => V.str (tx u))) nD (fun i H acc => EachIs (IsPairW H) acc ((turns v).take i)) (fun _ => .nil) (fun H2 s2 => s2.seq (SqL.of hp)) (fun i H2 H3 acc k h => h.mono fun _ _ h => h.kept k) (fun i H2 acc hi h => ?_) ?_ ?_
    · have := h.length
      rw [List.length_take, turns_len] at this
      rw [List.length_map, turns_len] at hi
      rw [sizeLine_eq]
      omega
    · rintro i x H2 H3 acc N M hi s2 hD hR ⟨rfl, hx⟩ hN _
      rw [List.getElem?_map] at hx
      cases hu : (turns v)[i]? with
      | none => rw [hu] at hx; cases hx
      | some u =>
        rw [hu] at hx
        have hx2 : V.str (tx u) = x := Option.some.inj hx
        subst hx2
        have hul : u.length = v.length := by
          obtain ⟨k, _, e⟩ := mem_turns.mp (List.mem_of_getElem? hu)
          rw [← e, rot_len]
        refine ⟨rfl, ?_⟩
        refine ⟨_, rfl, u, rfl, by omega, fun H4 s4 => ⟨_, rfl, by show 2 ≤ sizeLine; decide, fun T nT => ?_⟩⟩
        refine hN _ _ (s4.trans (same_new nT)) ?_
        have e : (turns v).take (i + 1) = (turns v).take i ++ [u] := by rw [List.take_add_one, hu]; rfl
        rw [e]
        exact PySem.W.each_snoc ⟨T, rfl, upd_same⟩ (hR.mono fun _ _ h => h.kept (.same (s4.trans (same_new nT))))
    · intro H2 acc s2 hD hR
      rw [List.take_of_length_le (by rw [List.length_map]; omega)] at hR
      obtain ⟨r, er, eg⟩ := great_tail h0
      have hrl : ∀ u ∈ r, u.length = v.length := fun u hu => by
        obtain ⟨k, _, e⟩ := mem_turns.mp (show u ∈ turns v by rw [er]; simp [hu])
        rw [← e, rot_len]
      have hd := pairs_dp (K := K) hR
      rw [er] at hd
      have hal := pairs_alike (turns v)
      rw [er] at hal
      have hdp := pairs_depth (turns v)
      rw [er] at hdp
      refine ⟨D, acc, pairD v, r.map pairD, rfl, SqL.of hD, hd, hal, by rw [List.map_cons] at hdp; omega, fun i x hx hm => ?_⟩
      obtain ⟨u, hu, p2, rfl, hp2⟩ := each_get hR hx
      rw [er] at hu
      have hm2 : ((v :: r).map pairD)[i]? = some (PySem.W.maxD (pairD v) (r.map pairD)) := hm
      rw [List.getElem?_map, hu, maxD_pairs r v hrl, ← eg] at hm2
      have hug : u = great v := pairD_inj (Option.some.inj hm2)
      refine ⟨p2, _, 1, .str (tx u), rfl, rfl, SqT.of hp2, rfl, ?_⟩
      rw [hug]
      exact q H2 (sm.trans s2)

theorem scCheckRound : FnScope ["loop"] ["loop"] (defScope sCheckRound) := ⟨rfl, rfl, rfl, by decide +kernel, rfl, by decide +kernel, by decide +kernel⟩
def spCheckRound : Sp := fun vs H Q _ => ∃ v : Wd, vs = [.str (tx v)] ∧ v ≠ [] ∧ v.length ≤ 40 ∧ isR v = true ∧ ∀ H', Same H H' → Q .non H'
theorem ok_checkRound {f : Addr} {fd : FuncData} (F : Fun K "check_round" "check_round" sCheckRound f fd) (kC : Kp P w K mg base 2 "check_loop" ["loop"] spCheckLoop) (kW : Kp P w K mg base 2 "is_whole_round" ["loop"] spWhole) : FnOk P w K mg base CX0 3 f fd ["loop"] spCheckRound := by
  refine F.ok scCheckRound (fun vs H Q E h => ?_) (fun cdv A outer s H vs Q E hr h => ?_)
  · obtain ⟨v, rfl, _⟩ := h
    rfl
  · obtain ⟨v, rfl, h0, hv, hR, q⟩ := h
    refine ⟨_, pss_cons (ps_expr (pe_K kC hr (p1 (pv 0)))) (pss_one (ps_if (pt_not (pt_val (pe_K kW hr (p1 (pv 0))))) (pss_one ps_never) pss_nil)), ?_⟩
    refine ⟨_, rfl, v, rfl, h0, hv, fun H2 sm => ⟨_, rfl, v, rfl, h0, by omega, isR v, rfl, ?_⟩⟩
    rw [hR]
    exact iteF (q H2 sm)
theorem scIsRound : FnScope ["loop"] ["loop"] (defScope sIsRound) := ⟨rfl, rfl, rfl, by decide +kernel, rfl, by decide +kernel, by decide +kernel⟩
def spIsRound : Sp := fun vs H Q _ => ∃ v : Wd, vs = [.str (tx v)] ∧ v ≠ [] ∧ v.length ≤ 40 ∧ ∀ H', Same H H' → Q (.bl (isR v)) H'
theorem ok_isRound {f : Addr} {fd : FuncData} (F : Fun K "is_round" "is_round" sIsRound f fd) (kC : Kp P w K mg base 2 "check_loop" ["loop"] spCheckLoop) (kW : Kp P w K mg base 2 "is_whole_round" ["loop"] spWhole) : FnOk P w K mg base CX0 3 f fd ["loop"] spIsRound := by
  refine F.ok scIsRound (fun vs H Q E h => ?_) (fun cdv A outer s H vs Q E hr h => ?_)
  · obtain ⟨v, rfl, _⟩ := h
    rfl
  · obtain ⟨v, rfl, h0, hv, q⟩ := h
    refine ⟨_, pss_cons (ps_expr (pe_K kC hr (p1 (pv 0)))) (pss_one (ps_ret (pe_K kW hr (p1 (pv 0))))), ?_⟩
    exact ⟨_, rfl, v, rfl, h0, hv, fun H2 sm => ⟨_, rfl, v, rfl, h0, by omega, q H2 sm⟩⟩
theorem scGreatestTurn : FnScope ["loop"] ["loop"] (defScope sGreatestTurn) := ⟨rfl, rfl, rfl, by decide +kernel, rfl, by decide +kernel, by decide +kernel⟩
def spGreatestTurn : Sp := fun vs H Q _ => ∃ v : Wd, vs = [.str (tx v)] ∧ v ≠ [] ∧ v.length ≤ 40 ∧ isR v = true ∧ ∀ H', Same H H' → Q (.str (tx (great v))) H'
theorem ok_greatestTurn {f : Addr} {fd : FuncData} (F : Fun K "greatest_turn" "greatest_turn" sGreatestTurn f fd) (kC : Kp P w K mg base 3 "check_round" ["loop"] spCheckRound) (kG : Kp P w K mg base 3 "greatest_by" ["loop"] spGreatest) : FnOk P w K mg base CX0 4 f fd ["loop"] spGreatestTurn := by
  refine F.ok scGreatestTurn (fun vs H Q E h => ?_) (fun cdv A outer s H vs Q E hr h => ?_)
  · obtain ⟨v, rfl, _⟩ := h
    rfl
  · obtain ⟨v, rfl, h0, hv, hR, q⟩ := h
    refine ⟨_, pss_cons (ps_expr (pe_K kC hr (p1 (pv 0)))) (pss_one (ps_ret (pe_K kG hr (p1 (pv 0))))), ?_⟩
    exact ⟨_, rfl, v, rfl, h0, hv, hR, fun H2 sm => ⟨_, rfl, v, rfl, h0, by omega, fun H3 s3 => q H3 (sm.trans s3)⟩⟩
end
end FW
set_option Elab.async false
set_option linter.all false
set_option maxRecDepth 100000
set_option maxHeartbeats 4000000
/-! dough: how many rounds, by divisors. -/
namespace FW
open PySem PySem.Spec PyProof.Rows L2
open PySem.W (EachIs)
abbrev sDivs : Stmt := top 42
abbrev sRoundsBy : Stmt := top 43
abbrev sCount : Stmt := top 48

theorem strip_pos : ∀ (f p l : Nat), 2 ≤ p → 1 ≤ l → 1 ≤ strip f p l
  | 0, _, _, _, h => h
  | f + 1, p, l, hp, h => by
    unfold strip
    by_cases e : l % p = 0
    · rw [if_pos e]
      refine strip_pos f p (l / p) hp ?_
      have hle : p ≤ l := Nat.le_of_dvd h (Nat.dvd_of_mod_eq_zero e)
      exact Nat.div_pos hle (by omega)
    · rw [if_neg e]
      exact h
theorem dst_prime (n : Nat) : ∀ i, (dst n i).prime = i + 2
  | 0 => rfl
  | i + 1 => by
    show (dst n i).prime + 1 = i + 1 + 2
    rw [dst_prime n i]
theorem dst_pos {n : Nat} (h : 1 ≤ n) : ∀ i, 1 ≤ (dst n i).left
  | 0 => h
  | i + 1 => strip_pos _ _ _ (by rw [dst_prime]; omega) (dst_pos h i)
theorem dst_one {n i : Nat} (h : (dst n i).left = 1) : (dst n (i + 1)).left = 1 ∧ (dst n (i + 1)).found = (dst n i).found := by
  have hp := dst_prime n i
  have h1 : ¬ 1 % (dst n i).prime = 0 := by
    rw [hp, Nat.mod_eq_of_lt (by omega)]
    omega
  constructor
  · show strip (dst n i).left (dst n i).prime (dst n i).left = 1
    rw [h]
    unfold strip
    rw [if_neg h1]
  · show (if (dst n i).left % (dst n i).prime = 0 then _ else (dst n i).found) = (dst n i).found
    rw [h, if_neg h1]
theorem dst_stop {n i : Nat} (h : (dst n i).left = 1) : ∀ k, (dst n (i + k)).left = 1 ∧ (dst n (i + k)).found = (dst n i).found
  | 0 => ⟨h, rfl⟩
  | k + 1 => by
    obtain ⟨a, b⟩ := dst_stop h k
    obtain ⟨c, d⟩ := dst_one a
    exact ⟨c, d.trans b⟩
theorem dst_grow (n i : Nat) : (dst n i).found.length ≤ (dst n (i + 1)).found.length := by
  show _ ≤ (if (dst n i).left % (dst n i).prime = 0 then _ else (dst n i).found).length
  split
  · rw [List.length_append]
    omega
  · exact Nat.le_refl _
theorem dst_grows (n i : Nat) : ∀ k, (dst n i).found.length ≤ (dst n (i + k)).found.length
  | 0 => Nat.le_refl _
  | k + 1 => Nat.le_trans (dst_grows n i k) (dst_grow n (i + k))
structure OkN (n : Nat) : Prop where
  left : (dst n n).left = 1
  eq : roundsI n = countL n
  ent : ∀ x ∈ divs n, (1 ≤ x.1 ∧ x.1 ≤ 200) ∧ (x.2 = 1 ∨ x.2 = -1)
  low : 0 ≤ roundsI n
  high : roundsI n < 2 ^ 200
  len : (divs n).length ≤ 100
  has : ((known n n).find? fun x => x.1 == n).isSome = true
theorem okN_s {n : Nat} (h1 : 1 ≤ n) (h2 : n ≤ 200) : OkN n := by
  have h := okN_of h1 h2
  unfold okN at h
  simp only [Bool.and_eq_true, decide_eq_true_eq, beq_iff_eq, List.all_eq_true, Bool.or_eq_true] at h
  obtain ⟨⟨⟨⟨⟨a, b⟩, c⟩, d⟩, e⟩, g⟩ := h
  exact ⟨a, b, fun x hx => ⟨(c x hx).1, (c x hx).2⟩, d.1, d.2, e, g⟩
theorem dst_len {n : Nat} (o : OkN n) {i : Nat} (h : i ≤ n) : (dst n i).found.length ≤ 100 := by
  have := dst_grows n i (n - i)
  rw [show i + (n - i) = n by omega] at this
  exact Nat.le_trans this o.len

/-- a pair of ints -/
def IsPairI (H : Hp) (x : V) (u : Int × Int) : Prop := ∃ p, x = V.ref p ∧ H p = some (.tup [.int u.1, .int u.2])
theorem IsPairI.kept {H H' : Hp} {x : V} {u : Int × Int} (k : TupKept H H') (h : IsPairI H x u) : IsPairI H' x u := by
  obtain ⟨p, e1, e2⟩ := h
  exact ⟨p, e1, k _ _ e2⟩
theorem each_app {α β : Type} {R : α → β → Prop} : ∀ {as as' : List α} {bs bs' : List β}, EachIs R as bs → EachIs R as' bs' → EachIs R (as ++ as') (bs ++ bs')
  | _, _, _, _, .nil, h => h
  | _, _, _, _, .cons a t, h => .cons a (each_app t h)
theorem dec_modN (n k : Nat) (hk : 0 < k) : decide (V.int (((n : Nat) : Int) % ((k : Nat) : Int)) = V.int 0) = decide (n % k = 0) := by
  rw [dec_mod]
  by_cases h : n % k = 0 <;> simp [h]
section
variable {P : Program} {w : World} {K : PySem.W.Frag} {mg : Str → Option Value} {base : Heap}
theorem scDivs : FnScope ["number", "found", "left", "prime", "own", "sign"] ["number"] (defScope sDivs) := ⟨rfl, rfl, rfl, by decide +kernel, rfl, by decide +kernel, by decide +kernel⟩
def spDivs : Sp := fun vs H Q _ => ∃ n : Nat, vs = [.int (n : Int)] ∧ 1 ≤ n ∧ n ≤ 200 ∧ ∀ H' p acc, Same H H' → H' p = some (.lst acc) → EachIs (IsPairI H') acc (divs n) → Q (.ref p) H'
theorem ok_divs {f : Addr} {fd : FuncData} (F : Fun K "divisors_sign" "divisors_sign" sDivs f fd) (G : Glo mg) : FnOk P w K mg base CX0 1 f fd ["number"] spDivs := by
  refine F.ok scDivs (fun vs H Q E h => ?_) (fun cdv A outer s H vs Q E hr h => ?_)
  · obtain ⟨n, rfl, _⟩ := h
    rfl
  · obtain ⟨n, rfl, hn1, hn2, q⟩ := h
    have o := okN_s hn1 hn2
    refine ⟨_, pss_cons (ps_set (i := 1) scDivs.nd rfl (.inl rfl) (pe_lst (p1 (pe_tup (pa_cons pe_int (p1 pe_int))))))
      (pss_cons (ps_asg (pe_tup (pa_cons (pv 0) (p1 pe_int))) (pg_tup rfl (pgs_cons (pg_name (i := 2) scDivs.nd rfl (.inl rfl)) (pgs_cons (pg_name (i := 3) scDivs.nd rfl (.inr rfl)) pgs_nil))))
      (pss_cons (ps_while PassesOwn.never (pt_cmpR op_gt (pv 2) pe_int (nomark _))
        (pss_cons (ps_if (pt_cmpR op_eq (pe_op op_mod (pv 2) (pv 3)) pe_int (nomark _))
            (pss_one (ps_set (i := 1) scDivs.nd rfl (.inl rfl) (pe_op op_cat (pv 1)
              (pe_lc (own := [("own", 4), ("sign", 5)]) (g := gTup K 2 (gCons (gName 4) (gCons (gName 5) gNil))) (tt := tYes) rfl scDivs.nd (pi_list (pv 1)) (blkOk_by (N := ["number", "found", "left", "prime", "own", "sign"]) (sc := defScope sDivs) (by decide +kernel))
                (fun _ _ _ _ _ => pg_tupK rfl rfl (pgs_cons (pg_name (i := 4) scDivs.nd rfl (Or.inl rfl)) (pgs_cons (pg_name (i := 5) scDivs.nd rfl (Or.inl rfl)) pgs_nil))) (fun _ _ _ _ _ => pts_nil)
                (fun _ _ _ _ _ => pe_tup (pa_cons (pe_op op_mul (pv 4) (pv 3)) (p1 (pe_un un_neg (pv 5))))))))) pss_nil)
          (pss_cons (ps_while PassesOwn.never (pt_cmpR op_eq (pe_op op_mod (pv 2) (pv 3)) pe_int (nomark _)) (pss_one (ps_set (i := 2) scDivs.nd rfl (.inl rfl) (pe_op op_fdivN (pv 2) (pv 3)))))
            (pss_one (ps_aug (i := 3) scDivs.nd rfl (.inr rfl) pe_int ip_add)))))
        (pss_one (ps_ret (pv 1))))), ?_⟩
    refine ⟨by show 2 ≤ sizeLine; decide, fun t nt => ⟨by show 1 ≤ sizeLine; decide, fun p np => ?_⟩⟩
    have s1 : Same H (upd (upd H t (.tup [.int 1, .int 1])) p (.lst [.ref t])) := (same_new nt).trans (same_new np)
    have ntp : t ≠ p := ne_of_none upd_same np
    refine ⟨_, rfl, by show 2 ≤ sizeLine; decide, fun t2 nt2 => ⟨t2, _, rfl, SqT.of upd_same, rfl, _, _, rfl, _, _, rfl, rfl, ?_⟩⟩
    have s2 := s1.trans (same_new (o := .tup [.int (n : Int), .int 2]) nt2)
    refine ⟨fun m σ H' => ∃ i p acc, i + m = n ∧ σ = [some (.int (n : Int)), some (.ref p), some (.int ((dst n i).left : Int)), some (.int ((dst n i).prime : Int)), none, none] ∧ Same H H' ∧ H' p = some (.lst acc) ∧ EachIs (IsPairI H') acc (dst n i).found,
      ⟨n, 0, p, [.ref t], by omega, rfl, s2, ?_, .cons ⟨t, rfl, ?_⟩ .nil⟩, ?_⟩
    · rw [upd_ne (ne_of_none upd_same nt2), upd_same]
    · have e : upd (upd H t (.tup [.int 1, .int 1])) p (.lst [.ref t]) t = some (.tup [.int 1, .int 1]) := by rw [upd_ne ntp, upd_same]
      rw [upd_ne (ne_of_none e nt2)]
      exact e
    · rintro m σ H1 ⟨i, p1', acc, him, rfl, sm, hp, hE⟩
      have hpr := dst_prime n i
      have hpos := dst_pos hn1 i
      refine ⟨_, rfl, _, _, rfl, rfl, _, rfl, ?_⟩
      by_cases hgt : 1 < (dst n i).left
      · rw [show decide ((1 : Int) < ((dst n i).left : Int)) = true from decide_eq_true (by omega)]
        have hin : i < n := by
          rcases Nat.lt_or_ge i n with h | h
          · exact h
          · have e : i = n := by omega
            rw [e, o.left] at hgt
            omega
        have hlen1 := dst_len o (i := i + 1) (by omega)
        refine iteT ⟨fun σ' H' => ∃ p acc, σ' = [some (.int (n : Int)), some (.ref p), some (.int ((dst n (i + 1)).left : Int)), some (.int ((dst n (i + 1)).prime : Int)), none, none] ∧ Same H H' ∧ H' p = some (.lst acc) ∧ EachIs (IsPairI H') acc (dst n (i + 1)).found,
          fun σ' H' ⟨p, acc, e1, e2, e3, e4⟩ => ⟨m - 1, by omega, i + 1, p, acc, by omega, e1, e2, e3, e4⟩, ?_⟩
        -- behind the if
        have rest : ∀ (H2 : Hp) (p2 : Addr) (acc2 : List V), Same H H2 → H2 p2 = some (.lst acc2) → EachIs (IsPairI H2) acc2 (dst n (i + 1)).found →
            tSeq (tWhile (tTest (tOp rEq (tOp (rI (fun x j => 0 < j) fun i j => V.int (i % j)) (tVar 2) (tVar 3)) (tC (V.int 0)))) (tAsg (tOp (rI CDivN fun i j => V.int (i.fdiv j)) (tVar 2) (tVar 3)) (gName 2))) (tAug 3 (tC (V.int 1)) (ipI fun i j => i + j))
              { nx := fun σ' H' => ∃ p acc, σ' = [some (.int (n : Int)), some (.ref p), some (.int ((dst n (i + 1)).left : Int)), some (.int ((dst n (i + 1)).prime : Int)), none, none] ∧ Same H H' ∧ H' p = some (.lst acc) ∧ EachIs (IsPairI H') acc (dst n (i + 1)).found, rt := fun v H' => Q v H' }
              [some (.int (n : Int)), some (.ref p2), some (.int ((dst n i).left : Int)), some (.int ((dst n i).prime : Int)), none, none] H2 := by
          intro H2 p2 acc2 sm2 hp2 hE2
          refine ⟨fun m2 σ' H' => ∃ l, 1 ≤ l ∧ l ≤ m2 ∧ strip m2 (dst n i).prime l = (dst n (i + 1)).left ∧ H2 = H' ∧ σ' = [some (.int (n : Int)), some (.ref p2), some (.int (l : Int)), some (.int ((dst n i).prime : Int)), none, none],
            ⟨(dst n i).left, (dst n i).left, hpos, Nat.le_refl _, rfl, rfl, rfl⟩, ?_⟩
          rintro m2 σ' H' ⟨l, hl1, hl2, hst, rfl, rfl⟩
          refine ⟨_, rfl, _, rfl, _, _, rfl, rfl, ?_, rfl, _, rfl, ?_⟩
          · show (0 : Int) < ((dst n i).prime : Int)
            omega
          rw [dec_mod]
          obtain ⟨m3, rfl⟩ : ∃ m3, m2 = m3 + 1 := ⟨m2 - 1, by omega⟩
          unfold strip at hst
          by_cases hd : l % (dst n i).prime = 0
          · rw [if_pos hd] at hst
            rw [show (l % (dst n i).prime == 0) = true by simp [hd]]
            have hle : (dst n i).prime ≤ l := Nat.le_of_dvd hl1 (Nat.dvd_of_mod_eq_zero hd)
            have hlt : l / (dst n i).prime < l := Nat.div_lt_self hl1 (by omega)
            have hdiv : 1 ≤ l / (dst n i).prime := Nat.div_pos hle (by omega)
            have ediv : ((l : Int)).fdiv ((dst n i).prime : Int) = ((l / (dst n i).prime : Nat) : Int) := by
              rw [Int.fdiv_eq_ediv_of_nonneg _ (by omega)]
              omega
            refine iteT ⟨fun σ' H' => ∃ l, 1 ≤ l ∧ l ≤ m3 ∧ strip m3 (dst n i).prime l = (dst n (i + 1)).left ∧ H2 = H' ∧ σ' = [some (.int (n : Int)), some (.ref p2), some (.int (l : Int)), some (.int ((dst n i).prime : Int)), none, none],
              fun σ' H' h => ⟨m3, by omega, h⟩, ?_⟩
            refine ⟨_, rfl, _, rfl, _, _, rfl, rfl, ⟨by omega, by omega⟩, ?_⟩
            refine ⟨l / (dst n i).prime, hdiv, by omega, hst, rfl, ?_⟩
            show [some (V.int (n : Int)), some (.ref p2), some (V.int (((l : Int)).fdiv ((dst n i).prime : Int))), some (.int ((dst n i).prime : Int)), none, none] = _
            rw [ediv]
          · rw [if_neg hd] at hst
            rw [show (l % (dst n i).prime == 0) = false by simp [hd]]
            refine iteF ⟨_, rfl, _, _, rfl, rfl, p2, acc2, ?_, sm2, hp2, hE2⟩
            show [some (V.int (n : Int)), some (.ref p2), some (.int (l : Int)), some (V.int (((dst n i).prime : Int) + 1)), none, none] = _
            rw [hst, dst_prime, dst_prime]
            have e : (((i + 2 : Nat) : Int) + 1) = ((i + 1 + 2 : Nat) : Int) := by omega
            rw [e]
        -- the if
        refine ⟨_, rfl, _, rfl, _, _, rfl, rfl, ?_, rfl, _, rfl, ?_⟩
        · show (0 : Int) < ((dst n i).prime : Int)
          omega
        rw [dec_mod]
        have ef : (dst n (i + 1)).found = if (dst n i).left % (dst n i).prime = 0 then (dst n i).found ++ (dst n i).found.map (fun x => (x.1 * ((dst n i).prime : Int), -x.2)) else (dst n i).found := rfl
        by_cases hd : (dst n i).left % (dst n i).prime = 0
        · rw [if_pos hd] at ef
          rw [show ((dst n i).left % (dst n i).prime == 0) = true by simp [hd]]
          have hL : ((dst n i).found ++ (dst n i).found.map (fun x => (x.1 * ((dst n i).prime : Int), -x.2))).length ≤ 100 := by rw [← ef]; exact hlen1
          rw [List.length_append, List.length_map] at hL
          have hal := hE.length
          refine iteT ⟨_, rfl, _, rfl, _, rfl, ⟨_, SqL.of hp⟩, fun D nD => ?_⟩
          refine lc_goR (walk_list (K := K) (a := p1') (xs := acc)) nD (fun j H' ac => EachIs (IsPairI H') ac (((dst n i).found.map (fun x => (x.1 * ((dst n i).prime : Int), -x.2))).take j)) (fun _ => .nil) (fun H2 s2 => s2.seq (SqL.of hp)) (fun _ _ _ _ k h => h.mono fun _ _ h => h.kept k) (fun j H2 ac hj h => ?_) ?_ ?_
          · have h2 := h.length
            rw [List.length_take, List.length_map] at h2
            rw [sizeLine_eq]
            omega
          · rintro j x H2 H3 ac N M hj s2 hD hR ⟨rfl, hx⟩ hN _
            obtain ⟨u, hu, p3, rfl, hp3⟩ := each_get hE hx
            have hp4 := s2 _ _ hp3
            refine ⟨p3, _, rfl, SqT.of hp4, rfl, _, _, rfl, _, _, rfl, rfl, rfl, ?_⟩
            refine ⟨_, rfl, _, rfl, _, _, rfl, rfl, .inr ⟨by omega, by omega⟩, _, rfl, _, rfl, by show 2 ≤ sizeLine; decide, fun T nT => ?_⟩
            refine hN _ _ (same_new nT) ?_
            have e : ((dst n i).found.map (fun x => (x.1 * ((dst n i).prime : Int), -x.2))).take (j + 1) = ((dst n i).found.map (fun x => (x.1 * ((dst n i).prime : Int), -x.2))).take j ++ [(u.1 * ((dst n i).prime : Int), -u.2)] := by
              rw [List.take_add_one, List.getElem?_map, hu]
              rfl
            rw [e]
            exact PySem.W.each_snoc ⟨T, rfl, upd_same⟩ (hR.mono fun _ _ h => h.kept (.same (same_new nT)))
          · intro H2 ac s2 hD hR
            rw [List.take_of_length_le (by rw [List.length_map]; omega)] at hR
            have hp5 := s2 _ _ hp
            have hEL := hR.length
            rw [List.length_map] at hEL
            refine ⟨p1', D, acc, ac, rfl, rfl, hp5, hD, by rw [sizeLine_eq]; omega, fun p6 np6 => ?_⟩
            have k6 : TupKept H1 (upd H2 p6 (.lst (acc ++ ac))) := .same (s2.trans (same_new np6))
            refine rest _ p6 (acc ++ ac) (sm.trans (s2.trans (same_new np6))) upd_same ?_
            rw [ef]
            exact each_app (hE.mono fun _ _ h => h.kept k6) (hR.mono fun _ _ h => h.kept (.same (same_new np6)))
        · rw [if_neg hd] at ef
          rw [show ((dst n i).left % (dst n i).prime == 0) = false by simp [hd]]
          refine iteF (rest H1 p1' acc sm hp ?_)
          rw [ef]
          exact hE
      · rw [show decide ((1 : Int) < ((dst n i).left : Int)) = false from decide_eq_false (by omega)]
        have hl1 : (dst n i).left = 1 := by omega
        obtain ⟨_, e2⟩ := dst_stop hl1 (n - i)
        rw [show i + (n - i) = n by omega] at e2
        refine iteF ⟨_, rfl, q H1 p1' acc sm hp ?_⟩
        unfold divs
        rw [e2]
        exact hE
end
end FW
set_option Elab.async false
set_option linter.all false
set_option maxRecDepth 100000
set_option maxHeartbeats 4000000
/-! dough: how many rounds; the list of all. -/
namespace FW
open PySem PySem.Spec PyProof.Rows L2
open PySem.W (EachIs)
abbrev sListed : Stmt := top 44
abbrev sAllRounds : Stmt := top 49
abbrev S (u : Wd) : V := .str (tx u)
theorem l_eq : ("l" : Str) = tx [false] := by decide +kernel
theorem r_eq : ("r" : Str) = tx [true] := by decide +kernel
theorem e_eq : ("" : Str) = tx [] := by decide +kernel
theorem wordsP_count : ∀ n, (wordsP n).length = 2 ^ n
  | 0 => rfl
  | n + 1 => by
    have ih := wordsP_count n
    have go : ∀ l : List Wd, (l.flatMap fun w => [w ++ [false], w ++ [true]]).length = 2 * l.length := fun l => by
      induction l with
      | nil => rfl
      | cons a l ih => rw [List.flatMap_cons, List.length_append, ih]; simp; omega
    show ((wordsP n).flatMap fun w => [w ++ [false], w ++ [true]]).length = _
    rw [go, ih, Nat.pow_succ, Nat.mul_comm]
theorem wordsP_64 {n : Nat} (h : n ≤ 6) : (wordsP n).length ≤ 64 := by
  rw [wordsP_count]
  exact Nat.pow_le_pow_right (by decide) h
section
variable {P : Program} {w : World} {K : PySem.W.Frag} {mg : Str → Option Value} {base : Heap}
theorem scRoundsBy : FnScope ["number", "own", "sign"] ["number"] (defScope sRoundsBy) := ⟨rfl, rfl, rfl, by decide +kernel, rfl, by decide +kernel, by decide +kernel⟩
def spRoundsBy : Sp := fun vs H Q _ => ∃ n : Nat, vs = [.int (n : Int)] ∧ 1 ≤ n ∧ n ≤ 200 ∧ ∀ H', Same H H' → Q (.int (roundsI n)) H'
theorem ok_roundsBy {f : Addr} {fd : FuncData} (F : Fun K "rounds_by" "rounds_by" sRoundsBy f fd) (G : Glo mg) (kD : Kp P w K mg base 1 "divisors_sign" ["number"] spDivs) (kP : Kp P w K mg base 1 "power" ["worth", "many"] spPower) : FnOk P w K mg base CX0 2 f fd ["number"] spRoundsBy := by
  refine F.ok scRoundsBy (fun vs H Q E h => ?_) (fun cdv A outer s H vs Q E hr h => ?_)
  · obtain ⟨n, rfl, _⟩ := h
    rfl
  · obtain ⟨n, rfl, hn1, hn2, q⟩ := h
    have o := okN_s hn1 hn2
    refine ⟨_, pss_one (ps_ret (pe_op op_fdivN (cB (cr_sum rfl) G.bSum (p1 (pe_lc (own := [("own", 1), ("sign", 2)]) (g := gTup K 2 (gCons (gName 1) (gCons (gName 2) gNil))) (tt := tYes) rfl scRoundsBy.nd (pi_list (pe_K kD hr (p1 (pv 0)))) (blkOk_by (N := ["number", "own", "sign"]) (sc := defScope sRoundsBy) (by decide +kernel))
                (fun _ _ _ _ _ => pg_tupK rfl rfl (pgs_cons (pg_name (i := 1) scRoundsBy.nd rfl (Or.inl rfl)) (pgs_cons (pg_name (i := 2) scRoundsBy.nd rfl (Or.inl rfl)) pgs_nil))) (fun _ _ _ _ _ => pts_nil)
                (fun _ _ _ _ _ => pe_op op_mul (pv 2) (pe_K kP hr (pa_cons pe_int (p1 (pe_op op_fdivN (pv 0) (pv 1))))))))) (pv 0))), ?_⟩
    refine ⟨_, rfl, n, rfl, hn1, hn2, fun H1 p acc sm hp hE => ⟨p, rfl, ⟨_, SqL.of hp⟩, fun D nD => ?_⟩⟩
    have hacc := hE.length
    refine lc_go (walk_list (K := K) (a := p) (xs := acc)) nD (fun i => (((divs n).map fun x => x.2 * 2 ^ ((n : Int) / x.1).toNat).take i).map V.int) (by simp) (fun H2 s2 => s2.seq (SqL.of hp)) (fun i hi => ?_) ?_ ?_
    · rw [List.length_map, List.length_take, List.length_map, sizeLine_eq]
      have := o.len
      omega
    · rintro i x H2 H3 N M hi s2 hD ⟨rfl, hx⟩ hN _
      obtain ⟨u, hu, p3, rfl, hp3⟩ := each_get hE hx
      obtain ⟨⟨u1, u2⟩, u3⟩ := o.ent u (List.mem_of_getElem? hu)
      have hp4 := s2 _ _ hp3
      have ediv : ((n : Int)).fdiv u.1 = ((((n : Int) / u.1).toNat : Nat) : Int) := by
        rw [Int.fdiv_eq_ediv_of_nonneg _ (by omega), Int.toNat_of_nonneg (Int.ediv_nonneg (by omega) (by omega))]
      have hdn : (n : Int) / u.1 ≤ (n : Int) := Int.ediv_le_self _ (by omega)
      refine ⟨p3, _, rfl, SqT.of hp4, rfl, _, _, rfl, _, _, rfl, rfl, rfl, ?_⟩
      refine ⟨_, rfl, _, rfl, _, rfl, _, _, rfl, rfl, ⟨by omega, by omega⟩, ((n : Int) / u.1).toNat, ?_, by omega, ?_⟩
      · show [V.int 2, V.int (((n : Int)).fdiv u.1)] = _
        rw [ediv]
      refine ⟨_, _, rfl, rfl, .inl (by rcases u3 with e | e <;> (rw [e]; decide)), ?_⟩
      refine hN _ _ (Same.refl _) ?_
      rw [List.take_add_one, List.getElem?_map, hu, List.map_append]
      rfl
    · intro H2 s2 hD
      rw [List.take_of_length_le (by rw [List.length_map]; omega)] at hD
      refine ⟨D, _, rfl, SqL.of hD, _, rfl, _, _, rfl, rfl, ⟨by omega, by omega⟩, ?_⟩
      show Q (V.int (Int.fdiv _ (n : Int))) H2
      rw [Int.fdiv_eq_ediv_of_nonneg _ (by omega)]
      exact q H2 (sm.trans s2)
theorem scCount : FnScope ["number"] ["number"] (defScope sCount) := ⟨rfl, rfl, rfl, by decide +kernel, rfl, by decide +kernel, by decide +kernel⟩
theorem ok_count {f : Addr} {fd : FuncData} (F : Fun K "count_rounds" "count_rounds" sCount f fd) (G : Glo mg) (kB : Kp P w K mg base 2 "is_between" ["value", "least", "most"] spBetween) (kR : Kp P w K mg base 2 "rounds_by" ["number"] spRoundsBy) : FnOk P w K mg base CX0 3 f fd ["number"] spRoundsBy := by
  refine F.ok scCount (fun vs H Q E h => ?_) (fun cdv A outer s H vs Q E hr h => ?_)
  · obtain ⟨n, rfl, _⟩ := h
    rfl
  · obtain ⟨n, rfl, hn1, hn2, q⟩ := h
    refine ⟨_, pss_cons (ps_if (pt_not (pt_val (pe_K kB hr (pa_cons (pv 0) (pa_cons pe_int (p1 (pe_cint G.cRound))))))) (pss_one ps_never) pss_nil) (pss_one (ps_ret (pe_K kR hr (p1 (pv 0))))), ?_⟩
    refine ⟨_, rfl, _, _, _, rfl, by omega, by omega, true, rfl, iteF ?_⟩
    exact ⟨_, rfl, n, rfl, hn1, hn2, q⟩

/-! ### rounds_listed -/
theorem scListed : FnScope ["number", "words", "turn", "some", "word", "letter", "key"] ["number"] (defScope sListed) := ⟨rfl, rfl, rfl, by decide +kernel, rfl, by decide +kernel, by decide +kernel⟩
def spListed : Sp := fun vs H Q _ => ∃ n : Nat, vs = [.int (n : Int)] ∧ 1 ≤ n ∧ n ≤ 6 ∧ ∀ H' p, Same H H' → H p = none → H' p = some (.lst ((sortedR n).map S)) → Q (.ref p) H'
theorem flat_take {u : Wd} {L : List Wd} {i : Nat} (h : L[i]? = some u) : (L.take (i + 1)).flatMap (fun w => [w ++ [false], w ++ [true]]) = (L.take i).flatMap (fun w => [w ++ [false], w ++ [true]]) ++ [u ++ [false], u ++ [true]] := by
  rw [List.take_add_one, h, List.flatMap_append]
  simp
theorem flat_len (L : List Wd) (i : Nat) : ((L.take i).flatMap (fun w => [w ++ [false], w ++ [true]])).length ≤ 2 * L.length := by
  have go : ∀ l : List Wd, (l.flatMap fun w => [w ++ [false], w ++ [true]]).length = 2 * l.length := fun l => by
    induction l with
    | nil => rfl
    | cons a l ih => rw [List.flatMap_cons, List.length_append, ih]; simp; omega
  rw [go, List.length_take]
  omega
theorem ok_listed {f : Addr} {fd : FuncData} (F : Fun K "rounds_listed" "rounds_listed" sListed f fd) (G : Glo mg) (kW : Kp P w K mg base 2 "is_whole_round" ["loop"] spWhole) (kG : Kp P w K mg base 3 "greatest_by" ["loop"] spGreatest)
    (kK : Kp P w K mg base 2 "height_key" ["loop"] spHKey) : FnOk P w K mg base CX0 4 f fd ["number"] spListed := by
  refine F.ok scListed (fun vs H Q E h => ?_) (fun cdv A outer s H vs Q E hr h => ?_)
  · obtain ⟨n, rfl, _⟩ := h
    rfl
  · obtain ⟨n, rfl, hn1, hn2, q⟩ := h
    refine ⟨_, pss_cons (ps_set (i := 1) scListed.nd rfl (.inl rfl) (pe_lst (p1 pe_str)))
      (pss_cons (ps_for PassesOwn.never rfl (pi_range1 (by rfl) G.bRange (p1 (pv 0))) (pg_name (i := 2) scListed.nd rfl (.inl rfl))
        (pss_one (ps_setLc2 (i := 1) (own := [("word", 4), ("letter", 5)]) (vs1 := [5]) (g := gName 4) (tt := tYes) (g1 := gName 5) (tt1 := tYes) rfl scListed.nd rfl rfl (sw_true rfl rfl rfl (by decide +kernel)) (pi_list (pv 1))
          (blkOk_by (N := ["number", "words", "turn", "some", "word", "letter", "key"]) (sc := defScope sListed) (by decide +kernel)) (by simp)
          (fun _ _ _ _ _ => pg_name (i := 4) scListed.nd rfl (Or.inl rfl)) (fun _ _ _ _ _ => pts_nil) (fun _ _ _ _ _ => pi_tupK (K := K) rfl (pe_tup (pa_cons pe_str (p1 pe_str))))
          (fun _ _ _ _ _ => pg_name (i := 5) scListed.nd rfl (Or.inl rfl)) (fun _ _ _ _ _ => pts_nil) (fun _ _ _ _ _ => pe_op op_add_str (pv 4) (pv 5)))))
      (pss_cons (ps_setLc (i := 3) (own := [("word", 4)]) (g := gName 4) rfl scListed.nd rfl rfl (sw_true rfl rfl rfl (by decide +kernel)) (pi_list (pv 1))
          (blkOk_by (N := ["number", "words", "turn", "some", "word", "letter", "key"]) (sc := defScope sListed) (by decide +kernel))
          (fun _ _ _ _ _ => pg_name (i := 4) scListed.nd rfl (Or.inl rfl)) (fun _ _ _ _ _ => pts_one (PW.pt (pw_and (pt_val (pe_K kW hr (p1 (pv 4)))) (pw_and1 (pt_cmpR op_eq (pe_K kG hr (p1 (pv 4))) (pv 4) (nomark _)))))) (fun _ _ _ _ _ => pv 4))
      (pss_one (ps_ret (pe_lc (own := [("key", 6), ("word", 4)]) (g := gTup K 2 (gCons (gName 6) (gCons (gName 4) gNil))) (tt := tYes) rfl scListed.nd
          (pi_list (cB (cr_sortDt hr pairD) G.bSorted (p1 (pe_lc (own := [("word", 4)]) (g := gName 4) (tt := tYes) rfl scListed.nd (pi_list (pv 3)) (blkOk_by (N := ["number", "words", "turn", "some", "word", "letter", "key"]) (sc := defScope sListed) (by decide +kernel))
              (fun _ _ _ _ _ => pg_name (i := 4) scListed.nd rfl (Or.inl rfl)) (fun _ _ _ _ _ => pts_nil) (fun _ _ _ _ _ => pe_tup (pa_cons (pe_K kK hr (p1 (pv 4))) (p1 (pv 4))))))))
          (blkOk_by (N := ["number", "words", "turn", "some", "word", "letter", "key"]) (sc := defScope sListed) (by decide +kernel))
          (fun _ _ _ _ _ => pg_tupK rfl rfl (pgs_cons (pg_name (i := 6) scListed.nd rfl (Or.inl rfl)) (pgs_cons (pg_name (i := 4) scListed.nd rfl (Or.inl rfl)) pgs_nil))) (fun _ _ _ _ _ => pts_nil) (fun _ _ _ _ _ => pv 4)))))), ?_⟩
    -- words = ['']
    refine ⟨by show 1 ≤ sizeLine; decide, fun p0 np0 => ?_⟩
    refine ⟨_, rfl, (n : Int), rfl, by omega, by omega, ?_⟩
    rw [Int.toNat_natCast]
    refine for_range (fun i σ H' => Same H H' ∧ ∃ p y2, σ = [some (.int (n : Int)), some (.ref p), y2, none, none, none, none] ∧ H' p = some (.lst ((wordsP i).map S)))
      ⟨same_new np0, p0, none, rfl, by rw [upd_same, e_eq]; rfl⟩ ?_ ?_
    · rintro i σ H1 hi ⟨sm, p, y2, rfl, hp⟩
      refine ⟨.ref p, rfl, p, rfl, ⟨_, SqL.of hp⟩, fun D nD => ?_⟩
      have hc := wordsP_64 (n := i) (by omega)
      have nDp : p ≠ D := ne_of_none hp nD
      refine ⟨fun j m H' => j + m = (wordsP i).length ∧ Same H1 H' ∧ H' D = some (.lst (((wordsP i).take j).flatMap (fun w => [w ++ [false], w ++ [true]]) |>.map S)), ⟨(wordsP i).length, by omega, same_new nD, upd_same⟩, ?_⟩
      rintro j m H2 ⟨hjm, s2, hD⟩
      have hp2 := s2 _ _ hp
      by_cases hj : j < (wordsP i).length
      · have hu : (wordsP i)[j]? = some (wordsP i)[j] := List.getElem?_eq_getElem hj
        generalize (wordsP i)[j] = u at hu
        have hul : u.length = i := wordsP_len i u (List.mem_of_getElem? hu)
        have hx0 : ((wordsP i).map S)[j]? = some (S u) := by rw [List.getElem?_map, hu]; rfl
        refine .inr ⟨⟨_, _, SqL.of hp2, hx0⟩, fun H' => Same H1 H' ∧ H' D = some (.lst (((wordsP i).take (j + 1)).flatMap (fun w => [w ++ [false], w ++ [true]]) |>.map S)), fun H' h => ⟨m - 1, by omega, by omega, h⟩, ?_⟩
        rintro x H' ⟨rfl, hx⟩
        have hxu : x = S u := Option.some.inj ((hx _ (SqL.of hp2)).symm.trans hx0)
        subst hxu
        refine ⟨rfl, ?_⟩
        refine ⟨by show 2 ≤ sizeLine; decide, fun T nT => ⟨T, rfl, ⟨_, SqT.of upd_same⟩, ?_⟩⟩
        have sT : Same H1 (upd H' T (.tup [.str "l", .str "r"])) := s2.trans (same_new nT)
        have hDT : (upd H' T (.tup [.str "l", .str "r"])) D = some (.lst (((wordsP i).take j).flatMap (fun w => [w ++ [false], w ++ [true]]) |>.map S)) := by rw [upd_ne (ne_of_none hD nT)]; exact hD
        refine ⟨fun k k2 H3 => k + k2 = 2 ∧ Same H1 H3 ∧ H3 T = some (.tup [.str "l", .str "r"]) ∧ H3 D = some (.lst ((((wordsP i).take j).flatMap (fun w => [w ++ [false], w ++ [true]]) ++ [u ++ [false], u ++ [true]].take k).map S)), ⟨2, by omega, sT, upd_same, by simpa using hDT⟩, ?_⟩
        rintro k k2 H3 ⟨hk, s3, hT3, hD3⟩
        have step : ∀ (b : Bool) (z : Str), z = tx [b] → [V.str "l", V.str "r"][k]? = some (.str z) → ([u ++ [false], u ++ [true]].take (k + 1) = [u ++ [false], u ++ [true]].take k ++ [u ++ [b]]) →
            ∃ Nx1 : Hp → Prop, (∀ H', Nx1 H' → ∃ k', k' < k2 ∧ (k + 1) + k' = 2 ∧ Same H1 H' ∧ H' T = some (.tup [.str "l", .str "r"]) ∧ H' D = some (.lst ((((wordsP i).take j).flatMap (fun w => [w ++ [false], w ++ [true]]) ++ [u ++ [false], u ++ [true]].take (k + 1)).map S))) ∧
              (u.length + 1 ≤ 1000 → Nx1 (upd H3 D (.lst (((((wordsP i).take j).flatMap (fun w => [w ++ [false], w ++ [true]]) ++ [u ++ [false], u ++ [true]].take k).map S) ++ [S (u ++ [b])])))) := by
          intro b z hz hzk hek
          have hk2 : k < 2 := (List.getElem?_eq_some_iff.mp hzk).1
          refine ⟨fun H' => Same H1 H' ∧ H' T = some (.tup [.str "l", .str "r"]) ∧ H' D = some (.lst ((((wordsP i).take j).flatMap (fun w => [w ++ [false], w ++ [true]]) ++ [u ++ [false], u ++ [true]].take (k + 1)).map S)), fun H' h => ⟨k2 - 1, by omega, by omega, h⟩, fun _ => ?_⟩
          refine ⟨same_set s3 nD, ?_, ?_⟩
          · rw [upd_ne (ne_of hT3 hD3 (by intro z; cases z))]
            exact hT3
          · rw [upd_same, hek]
            simp only [List.map_append, List.append_assoc, List.map_cons, List.map_nil]
        have hlen : ((((wordsP i).take j).flatMap (fun w => [w ++ [false], w ++ [true]]) ++ [u ++ [false], u ++ [true]].take k).map S).length < sizeLine := by
          rw [List.length_map, List.length_append, List.length_take, sizeLine_eq]
          have := flat_len (wordsP i) j
          simp only [List.length_cons, List.length_nil]
          omega
        have body : ∀ (b : Bool) (z : Str), z = tx [b] → (tx u).length + z.length ≤ sizeLine ∧ V.str (tx u ++ z) = S (u ++ [b]) := fun b z hz => by
          subst hz
          rw [t2_app, t2_len, t2_len, sizeLine_eq]
          exact ⟨by simp; omega, rfl⟩
        by_cases hk2 : k < 2
        · obtain ⟨b, z, hz, hzk, hek⟩ : ∃ (b : Bool) (z : Str), z = tx [b] ∧ [V.str "l", V.str "r"][k]? = some (.str z) ∧ ([u ++ [false], u ++ [true]].take (k + 1) = [u ++ [false], u ++ [true]].take k ++ [u ++ [b]]) := by
            rcases (show k = 0 ∨ k = 1 by omega) with e | e
            · subst e
              exact ⟨false, "l", l_eq, rfl, rfl⟩
            · subst e
              exact ⟨true, "r", r_eq, rfl, rfl⟩
          obtain ⟨Nx1, n1, n2⟩ := step b z hz hzk hek
          obtain ⟨b1, b2⟩ := body b z hz
          refine .inr ⟨⟨_, _, SqT.of hT3, hzk⟩, Nx1, n1, ?_⟩
          rintro x H4 ⟨rfl, hx⟩
          have hxz : x = .str z := Option.some.inj ((hx _ (SqT.of hT3)).symm.trans hzk)
          subst hxz
          refine ⟨rfl, ?_⟩
          refine ⟨_, rfl, _, rfl, _, _, rfl, rfl, b1, _, hD3, hlen, ?_⟩
          show Nx1 (upd H4 D (.lst (_ ++ [V.str (tx u ++ z)])))
          rw [b2]
          exact n2 (by omega)
        · refine .inl ⟨⟨_, SqT.of hT3, by show 2 ≤ k; omega⟩, s3, ?_⟩
          rw [hD3, flat_take hu, show k = 2 by omega]
          rfl
      · refine .inl ⟨⟨_, SqL.of hp2, by rw [List.length_map]; omega⟩, sm.trans s2, D, _, rfl, ?_⟩
        rw [hD, List.take_of_length_le (by omega)]
        rfl
    · rintro σ H1 ⟨sm, p, y2, rfl, hp⟩
      have hc := wordsP_64 (n := n) hn2
      -- some = [..]
      refine ⟨.ref p, rfl, p, rfl, ⟨_, SqL.of hp⟩, fun D nD => ?_⟩
      refine lc_go (walk_list (K := K) (a := p) (xs := (wordsP n).map S)) nD (fun i => (((wordsP n).take i).filter fun w => isR w && great w == w).map S) (by simp) (fun H2 s2 => s2.seq (SqL.of hp)) (fun i hi => ?_) ?_ ?_
      · rw [List.length_map, sizeLine_eq]
        have h1 := List.length_filter_le (fun w => isR w && great w == w) ((wordsP n).take i)
        rw [List.length_take] at h1
        omega
      · rintro i x H2 H3 N M hi s2 hD ⟨rfl, hx⟩ hN hM
        rw [List.getElem?_map] at hx
        cases hu : (wordsP n)[i]? with
        | none => rw [hu] at hx; cases hx
        | some u =>
          rw [hu] at hx
          have hxu : S u = x := Option.some.inj hx
          subst hxu
          have hul : u.length = n := wordsP_len n u (List.mem_of_getElem? hu)
          have hu0 : u ≠ [] := fun e => by
            rw [e] at hul
            simp at hul
            omega
          have et : (wordsP n).take (i + 1) = (wordsP n).take i ++ [u] := by rw [List.take_add_one, hu]; rfl
          refine ⟨rfl, _, rfl, u, rfl, hu0, by omega, isR u, rfl, ?_⟩
          cases hR : isR u with
          | false =>
            refine iteF (hM _ (Same.refl _) ?_)
            rw [et, List.filter_append, List.filter_cons, hR]
            simp
          | true =>
            refine iteT ⟨_, rfl, u, rfl, hu0, by omega, fun H4 s4 => ⟨_, rfl, rfl, _, rfl, ?_⟩⟩
            rw [dec_tx]
            cases hg : (great u == u) with
            | false =>
              refine iteF (hM _ s4 ?_)
              rw [et, List.filter_append, List.filter_cons, hR, hg]
              simp
            | true =>
              refine iteT ⟨_, rfl, hN _ _ s4 ?_⟩
              rw [et, List.filter_append, List.filter_cons, hR, hg, List.map_append]
              simp
      · intro H2 s2 hD
        rw [List.take_of_length_le (by rw [List.length_map]; omega)] at hD
        have hD : H2 D = some (.lst ((someP n).map S)) := hD
        have hcs : (someP n).length ≤ 64 := Nat.le_trans (List.length_filter_le _ _) hc
        have hsl : ∀ u ∈ someP n, u.length = n := fun u hu => wordsP_len n u (List.mem_filter.mp hu).1
        -- sorted([(height_key(word), word) for word in some])
        refine ⟨.ref D, rfl, D, rfl, ⟨_, SqL.of hD⟩, fun D2 nD2 => ?_⟩
        refine lc_goR (walk_list (K := K) (a := D) (xs := (someP n).map S)) nD2 (fun i H acc => EachIs (IsPairW H) acc ((someP n).take i)) (fun _ => .nil) (fun H2 s2 => s2.seq (SqL.of hD)) (fun i H2 H3 acc k h => h.mono fun _ _ h => h.kept k) (fun i H2 acc hi h => ?_) ?_ ?_
        · have h1 := h.length
          rw [List.length_take] at h1
          rw [sizeLine_eq]
          omega
        · rintro i x H3 H4 acc N M hi s3 hD3 hR ⟨rfl, hx⟩ hN _
          rw [List.getElem?_map] at hx
          cases hu : (someP n)[i]? with
          | none => rw [hu] at hx; cases hx
          | some u =>
            rw [hu] at hx
            have hxu : S u = x := Option.some.inj hx
            subst hxu
            have hul := hsl u (List.mem_of_getElem? hu)
            refine ⟨rfl, ?_⟩
            refine ⟨_, rfl, u, rfl, by omega, fun H5 s5 => ⟨_, rfl, by show 2 ≤ sizeLine; decide, fun T nT => ?_⟩⟩
            refine hN _ _ (s5.trans (same_new nT)) ?_
            have e : (someP n).take (i + 1) = (someP n).take i ++ [u] := by rw [List.take_add_one, hu]; rfl
            rw [e]
            exact PySem.W.each_snoc ⟨T, rfl, upd_same⟩ (hR.mono fun _ _ h => h.kept (.same (s5.trans (same_new nT))))
        · intro H3 acc s3 hD3 hR
          rw [List.take_of_length_le (by rw [List.length_map]; omega)] at hR
          refine ⟨D2, acc, someP n, IsPairW H3, rfl, SqL.of hD3, hR, fun x u h => h.dp, PySem.W.AllAlike.of fun a b => pairD_alike a b, PySem.W.Sortable.tuples fun u => ⟨_, _, rfl⟩, fun u _ => by rw [pairD_depth]; omega, fun ys p4 hY np4 => ?_⟩
          rw [sortP] at hY
          have hyl := hY.length
          rw [sortedR_len] at hyl
          refine ⟨p4, rfl, ⟨_, SqL.of upd_same⟩, fun D5 nD5 => ?_⟩
          refine lc_go (walk_list (K := K) (a := p4) (xs := ys)) nD5 (fun i => ((sortedR n).take i).map S) (by simp) (fun H6 s6 => s6.seq (SqL.of upd_same)) (fun i hi => ?_) ?_ ?_
          · rw [List.length_map, List.length_take, sizeLine_eq]
            omega
          · rintro i x H6 H7 N M hi s6 hD6 ⟨rfl, hx⟩ hN _
            obtain ⟨u, hu, p8, rfl, hp8⟩ := each_get hY hx
            have hp9 := s6 _ _ (same_new (o := .lst ys) np4 _ _ hp8)
            refine ⟨p8, _, rfl, SqT.of hp9, rfl, _, _, rfl, _, _, rfl, rfl, rfl, ?_⟩
            refine ⟨_, rfl, hN _ _ (Same.refl _) ?_⟩
            rw [List.take_add_one, hu, List.map_append]
            rfl
          · intro H6 s6 hD6
            rw [List.take_of_length_le (by rw [sortedR_len]; omega)] at hD6
            have sAll : Same H H6 := sm.trans (s2.trans (s3.trans ((same_new np4).trans s6)))
            exact q H6 D5 sAll ((sm.trans (s2.trans (s3.trans (same_new np4)))).free nD5) hD6
theorem scAllRounds : FnScope ["number"] ["number"] (defScope sAllRounds) := ⟨rfl, rfl, rfl, by decide +kernel, rfl, by decide +kernel, by decide +kernel⟩
def spAllRounds : Sp := fun vs H Q _ => ∃ n : Nat, vs = [.int (n : Int)] ∧ 1 ≤ n ∧ n ≤ 6 ∧ ∀ H' p, Same H H' → H' p = some (.tup ((sortedR n).map S)) → Q (.ref p) H'
theorem ok_allRounds {f : Addr} {fd : FuncData} (F : Fun K "all_rounds" "all_rounds" sAllRounds f fd) (G : Glo mg) (kB : Kp P w K mg base 2 "is_between" ["value", "least", "most"] spBetween) (kL : Kp P w K mg base 4 "rounds_listed" ["number"] spListed) : FnOk P w K mg base CX0 5 f fd ["number"] spAllRounds := by
  refine F.ok scAllRounds (fun vs H Q E h => ?_) (fun cdv A outer s H vs Q E hr h => ?_)
  · obtain ⟨n, rfl, _⟩ := h
    rfl
  · obtain ⟨n, rfl, hn1, hn2, q⟩ := h
    refine ⟨_, pss_cons (ps_if (pt_not (pt_val (pe_K kB hr (pa_cons (pv 0) (pa_cons pe_int (p1 (pe_cint G.cRounds))))))) (pss_one ps_never) pss_nil) (pss_one (ps_ret (cT call_tuple_of G.bTuple (p1 (pe_K kL hr (p1 (pv 0))))))), ?_⟩
    refine ⟨_, rfl, _, _, _, rfl, by omega, by omega, true, rfl, iteF ?_⟩
    refine ⟨_, rfl, n, rfl, hn1, hn2, fun H1 p sm np hp => ⟨p, _, rfl, .inl ⟨SqL.of hp, fun l nl => ?_⟩⟩⟩
    exact q _ l (sm.trans (same_new nl)) upd_same
end
end FW
set_option Elab.async false
set_option linter.all false
set_option maxRecDepth 100000
set_option maxHeartbeats 4000000
/-! the console. -/
namespace FW
open PySem PySem.Spec PyProof.Rows L2
abbrev sSigns : Stmt := top 17
abbrev sIsRow : Stmt := top 20
abbrev sCheckNumber : Stmt := top 21
abbrev sNumberIn : Stmt := top 74
abbrev sInit : Stmt := inClass (top 76) 0
abbrev sSay : Stmt := inClass (top 76) 1
abbrev sOwn : Stmt := inClass (top 76) 2
abbrev sAnswer : Stmt := inClass (top 76) 3
abbrev sOther : Stmt := inClass (top 76) 5

/-! ### figures -/
/-- a number's figures -/
abbrev D (z : Int) : Str := ((toString z : String) : Str)
def figOk (m : Nat) : Bool :=
  decide ((D (m : Int)).length ≤ 7) && decide (D (m : Int) ≠ "") && (D (m : Int)).cps.toList.all (fun c => decide (c ∈ ("0123456789" : Str).cps.toList) && decide (c ∉ ("()" : Str).cps.toList)) &&
  (match (D (m : Int)).cps[0]? with | some c => decide (c ≠ 48) | none => false) && decide (intText? (D (m : Int)) = some (m : Int)) &&
  decide (Txt.split (("rounds " : Str) ++ D (m : Int)) " " = [("rounds" : Str), D (m : Int)])
theorem figOk_all : (List.range 200).all (fun m => figOk (m + 1)) = true := by decide +kernel
structure FigOk (m : Nat) : Prop where
  len : (D (m : Int)).length ≤ 7
  ne : D (m : Int) ≠ ""
  figs : ∀ c ∈ (D (m : Int)).cps.toList, c ∈ ("0123456789" : Str).cps.toList ∧ c ∉ ("()" : Str).cps.toList
  head : ∃ c, (D (m : Int)).cps[0]? = some c ∧ c ≠ 48
  num : intText? (D (m : Int)) = some (m : Int)
  parts : Txt.split (("rounds " : Str) ++ D (m : Int)) " " = [("rounds" : Str), D (m : Int)]
theorem figOk_s {m : Nat} (h1 : 1 ≤ m) (h2 : m ≤ 200) : FigOk m := by
  have h := List.all_eq_true.mp figOk_all (m - 1) (List.mem_range.mpr (by omega))
  have e : m - 1 + 1 = m := by omega
  have h3 : figOk (m - 1 + 1) = true := h
  rw [e] at h3
  unfold figOk at h3
  simp only [Bool.and_eq_true, decide_eq_true_eq, List.all_eq_true] at h3
  obtain ⟨⟨⟨⟨⟨a, b⟩, c⟩, d⟩, e1⟩, g⟩ := h3
  refine ⟨a, b, c, ?_, e1, g⟩
  cases q : (D (m : Int)).cps[0]? with
  | none => rw [q] at d; simp at d
  | some c0 => rw [q] at d; exact ⟨c0, rfl, by simpa using d⟩
theorem dec_str {a b : Str} (h : a ≠ b) : decide (V.str a = V.str b) = false := decide_eq_false fun e => h (V.str.inj e)
section
variable {X : Cx} {e : Expr} {op : BoolOp} {es : List Expr} {pos : Pos}
/-- tests and values that are never asked -/
theorem pt_no : PT X e (fun _ _ _ => False) := ⟨fun _ _ _ _ _ _ h => h.elim⟩
theorem pw_no : PW X e (fun _ _ _ => False) := ⟨fun _ _ _ _ _ _ _ h => h.elim⟩
theorem pe_no : PE X e (fun _ _ _ => False) := ⟨fun _ _ _ _ _ _ h => h.elim⟩
end
section
variable {P : Program} {w : World} {K : PySem.W.Frag} {mg : Str → Option Value} {base : Heap}
theorem scSigns : FnScope ["value", "signs", "least", "most", "sign"] ["value", "signs", "least", "most"] (defScope sSigns) := ⟨rfl, rfl, rfl, by decide +kernel, rfl, by decide +kernel, by decide +kernel⟩
def spSigns : Sp := fun vs H Q _ => ∃ z : Str, vs = [.str z, .str "()", .int 0, .int 24] ∧ z.length ≤ 24 ∧ z ≠ "" ∧ (∀ c ∈ z.cps.toList, c ∉ ("()" : Str).cps.toList) ∧ ∀ H', Same H H' → Q (.bl false) H'
theorem ok_signs {f : Addr} {fd : FuncData} (F : Fun K "are_signs" "are_signs" sSigns f fd) (G : Glo mg) : FnOk P w K mg base CX0 1 f fd ["value", "signs", "least", "most"] spSigns := by
  refine F.ok scSigns (fun vs H Q E h => ?_) (fun cdv A outer s H vs Q E hr h => ?_)
  · obtain ⟨z, rfl, _⟩ := h
    rfl
  · obtain ⟨z, rfl, hz, h0, hc, q⟩ := h
    refine ⟨_, pss_cons (ps_if (PW.pt (pw_or (pt_not (pt_val (cB call_isi G.bIsinstance (pa_cons (pv 0) (p1 (pe_bltn (v := .ty "str") (by rfl) G.bStr (by decide +kernel) rfl))))))
        (pw_or1 (pt_not (pt_chain op_le op_le (pv 2) (cB call_len_str G.bLen (p1 (pv 0))) (pv 3)))))) (pss_one (ps_ret pe_bl)) pss_nil)
      (pss_one (ps_ret (cB (cr_all rfl) G.bAll (p1 (pe_lc (own := [("sign", 4)]) (g := gName 4) (tt := tYes) rfl scSigns.nd (pi_str (pv 0)) (blkOk_by (N := ["value", "signs", "least", "most", "sign"]) (sc := defScope sSigns) (by decide +kernel))
          (fun _ _ _ _ _ => pg_name (i := 4) scSigns.nd rfl (Or.inl rfl)) (fun _ _ _ _ _ => pts_nil) (fun _ _ _ _ _ => pe_cmpR op_in_sign (pv 4) (pv 1) (by rfl))))))), ?_⟩
    have hline : z.length ≤ sizeLine := by rw [sizeLine_eq]; omega
    refine ⟨_, rfl, .str z, .ty "str", .type "str", .type "str", true, rfl, .ty _, .base (.str _), kit_ty (by decide +kernel), true, rfl, iteF ?_⟩
    refine ⟨_, rfl, _, rfl, z, rfl, hline, _, _, rfl, rfl, true, ?_, iteT ⟨_, rfl, _, _, rfl, rfl, true, ?_, iteF ?_⟩⟩
    · show V.bl (decide ((0 : Int) ≤ (z.length : Int))) = V.bl true
      rw [decide_eq_true (by omega)]
    · show V.bl (decide ((z.length : Int) ≤ 24)) = V.bl true
      rw [decide_eq_true (by omega)]
    refine ⟨_, rfl, _, rfl, fun Dd nD => lc_go walk_str nD (fun i => (List.replicate i false).map V.bl) rfl (fun _ _ => trivial) (fun i hi => ?_) ?_ ?_⟩
    · rw [List.length_map, List.length_replicate, sizeLine_eq]
      have : z.cps.size = z.length := rfl
      omega
    · rintro i x H1 H2 N M hi sm hD ⟨rfl, c, hcx, rfl⟩ hN _
      refine ⟨rfl, ?_⟩
      refine ⟨_, rfl, _, rfl, c, _, rfl, rfl, ?_⟩
      have hm : c ∈ z.cps.toList := by
        have := Array.mem_of_getElem? hcx
        exact Array.mem_toList_iff.mpr this
      rw [decide_eq_false (hc c hm)]
      refine hN _ _ (Same.refl _) ?_
      rw [List.replicate_succ', List.map_append]
      rfl
    · intro H2 sm hD
      refine ⟨Dd, _, rfl, SqL.of hD, ?_⟩
      have hsz : 0 < z.cps.size := by
        rcases Nat.eq_zero_or_pos z.cps.size with e | e
        · exfalso
          apply h0
          have e2 : z.cps = #[] := Array.eq_empty_of_size_eq_zero e
          have e3 : (("" : Str)).cps = #[] := by decide +kernel
          cases z with
          | mk cs =>
            have e4 : cs = #[] := e2
            rw [e4]
            show (⟨#[]⟩ : Str) = _
            decide +kernel
        · exact e
      obtain ⟨k, hk⟩ : ∃ k, z.cps.size = k + 1 := ⟨z.cps.size - 1, by omega⟩
      rw [hk, List.replicate_succ]
      exact q H2 sm
theorem scIsRow : FnScope ["value", "height", "sign"] ["value"] (defScope sIsRow) := ⟨rfl, rfl, rfl, by decide +kernel, rfl, by decide +kernel, by decide +kernel⟩
def spIsRow : Sp := fun vs H Q _ => ∃ z : Str, vs = [.str z] ∧ z.length ≤ 24 ∧ z ≠ "" ∧ (∀ c ∈ z.cps.toList, c ∉ ("()" : Str).cps.toList) ∧ ∀ H', Same H H' → Q (.bl false) H'
theorem ok_isRow {f : Addr} {fd : FuncData} (F : Fun K "is_row" "is_row" sIsRow f fd) (G : Glo mg) (kS : Kp P w K mg base 1 "are_signs" ["value", "signs", "least", "most"] spSigns) : FnOk P w K mg base CX0 2 f fd ["value"] spIsRow := by
  refine F.ok scIsRow (fun vs H Q E h => ?_) (fun cdv A outer s H vs Q E hr h => ?_)
  · obtain ⟨z, rfl, _⟩ := h
    rfl
  · obtain ⟨z, rfl, hz, h0, hc, q⟩ := h
    refine ⟨_, pss_cons (ps_if (pt_not (pt_val (pe_K kS hr (pa_cons (pv 0) (pa_cons pe_str (pa_cons pe_int (p1 (pe_op op_mul pe_int (pe_cint G.cArches))))))))) (pss_one (ps_ret pe_bl)) pss_nil) pss_never, ?_⟩
    refine ⟨_, rfl, _, _, rfl, rfl, .inl ⟨by decide, by decide⟩, z, rfl, hz, h0, hc, fun H1 sm => ⟨false, rfl, iteT ?_⟩⟩
    exact q H1 sm
theorem scCheckNumber : FnScope ["number", "least", "most"] ["number", "least", "most"] (defScope sCheckNumber) := ⟨rfl, rfl, rfl, by decide +kernel, rfl, by decide +kernel, by decide +kernel⟩
def spCheckNumber : Sp := fun vs H Q _ => ∃ n a b : Int, vs = [.int n, .int a, .int b] ∧ a ≤ n ∧ n ≤ b ∧ Q .non H
theorem ok_checkNumber {f : Addr} {fd : FuncData} (F : Fun K "check_number" "check_number" sCheckNumber f fd) (kB : Kp P w K mg base 2 "is_between" ["value", "least", "most"] spBetween) : FnOk P w K mg base CX0 3 f fd ["number", "least", "most"] spCheckNumber := by
  refine F.ok scCheckNumber (fun vs H Q E h => ?_) (fun cdv A outer s H vs Q E hr h => ?_)
  · obtain ⟨n, a, b, rfl, _⟩ := h
    rfl
  · obtain ⟨n, a, b, rfl, h1, h2, q⟩ := h
    refine ⟨_, pss_one (ps_if (pt_not (pt_val (pe_K kB hr (pa_cons (pv 0) (pa_cons (pv 1) (p1 (pv 2))))))) (pss_one ps_never) pss_nil), ?_⟩
    exact ⟨_, rfl, _, rfl, _, rfl, n, a, b, rfl, h1, h2, true, rfl, iteF q⟩
theorem scNumberIn : FnScope ["word", "sign"] ["word"] (defScope sNumberIn) := ⟨rfl, rfl, rfl, by decide +kernel, rfl, by decide +kernel, by decide +kernel⟩
def spNumberIn : Sp := fun vs H Q _ => ∃ m : Nat, vs = [.str (D (m : Int))] ∧ 1 ≤ m ∧ m ≤ 200 ∧ ∀ H', Same H H' → Q (.int (m : Int)) H'
theorem ok_numberIn {f : Addr} {fd : FuncData} (F : Fun K "number_in" "number_in" sNumberIn f fd) (G : Glo mg) : FnOk P w K mg base CX0 1 f fd ["word"] spNumberIn := by
  refine F.ok scNumberIn (fun vs H Q E h => ?_) (fun cdv A outer s H vs Q E hr h => ?_)
  · obtain ⟨m, rfl, _⟩ := h
    rfl
  · obtain ⟨m, rfl, h1, h2, q⟩ := h
    have o := figOk_s h1 h2
    have hline : (D (m : Int)).length ≤ sizeLine := by rw [sizeLine_eq]; have := o.len; omega
    refine ⟨_, pss_cons (ps_if (PW.pt (pw_or (pt_cmpR op_eq (pv 0) pe_str (nomark _)) (pw_or (pt_cmpR op_gt (cB call_len_str G.bLen (p1 (pv 0))) pe_int (nomark _))
        (pw_or1 (pt_not (pt_val (cB (cr_all rfl) G.bAll (p1 (pe_lc (own := [("sign", 1)]) (g := gName 1) (tt := tYes) rfl scNumberIn.nd (pi_str (pv 0)) (blkOk_by (N := ["word", "sign"]) (sc := defScope sNumberIn) (by decide +kernel))
          (fun _ _ _ _ _ => pg_name (i := 1) scNumberIn.nd rfl (Or.inl rfl)) (fun _ _ _ _ _ => pts_nil) (fun _ _ _ _ _ => pe_cmpR op_in_sign (pv 1) (pe_cstr G.cFigures) (by rfl)))))))))))
        (pss_one (ps_ret pe_non)) pss_nil)
      (pss_one (ps_ret (pe_ifExp (PW.pt (pw_and (pt_cmpR op_eq (pe_item_str (pv 0) pe_int (fun _ _ => rfl)) pe_str (nomark _)) (pw_and1 pt_no))) pe_non (cT call_int_str G.bInt (p1 (pv 0)))))), ?_⟩
    refine ⟨_, rfl, rfl, _, rfl, ?_⟩
    rw [dec_str o.ne]
    refine iteF ⟨_, rfl, _, rfl, hline, _, _, rfl, rfl, false, ?_, iteF ?_⟩
    · show V.bl (decide ((7 : Int) < ((D (m : Int)).length : Int))) = V.bl false
      have := o.len
      rw [decide_eq_false (by omega)]
    refine ⟨_, rfl, _, rfl, fun Dd nD => lc_go walk_str nD (fun i => (List.replicate i true).map V.bl) rfl (fun _ _ => trivial) (fun i hi => ?_) ?_ ?_⟩
    · rw [List.length_map, List.length_replicate, sizeLine_eq]
      have h3 : (D (m : Int)).cps.size = (D (m : Int)).length := rfl
      have := o.len
      omega
    · rintro i x H1 H2 N M hi sm hD ⟨rfl, c, hcx, rfl⟩ hN _
      refine ⟨rfl, ?_⟩
      refine ⟨_, rfl, c, _, rfl, rfl, ?_⟩
      have hm : c ∈ (D (m : Int)).cps.toList := Array.mem_toList_iff.mpr (Array.mem_of_getElem? hcx)
      rw [decide_eq_true (o.figs c hm).1]
      refine hN _ _ (Same.refl _) ?_
      rw [List.replicate_succ', List.map_append]
      rfl
    · intro H2 sm hD
      have e : (List.replicate (D (m : Int)).cps.size true).all id = true := by rw [List.all_eq_true]; intro x hx; rw [List.eq_of_mem_replicate hx]; rfl
      refine ⟨Dd, _, rfl, SqL.of hD, true, by rw [e], iteF ?_⟩
      obtain ⟨c0, hc0, hn48⟩ := o.head
      have hpos : 0 < (D (m : Int)).length := (Array.getElem?_eq_some_iff.mp hc0).1
      refine ⟨_, rfl, _, 0, c0, rfl, rfl, by decide, by decide, by omega, hc0, rfl, _, rfl, ?_⟩
      rw [dec_str (a := ⟨#[c0]⟩) (b := "0") (fun z => hn48 (by
        have z1 : (⟨#[c0]⟩ : Str) = ⟨#[48]⟩ := z.trans (by decide +kernel)
        have z2 := congrArg Str.cps z1
        have z3 : #[c0] = #[48] := z2
        simpa using z3))]
      exact iteF (iteF ⟨_, rfl, _, _, rfl, o.num, by have := o.len; omega, q H2 sm⟩)

/-! ### the class -/
structure Cons (K : PySem.W.Frag) (C : Addr) : Prop where
  cl : Cls K C
  nN : NoAttr K C "number"
def fsN (k : Int) : List (Str × V) := [("number", .int k)]
theorem fsN_no {k : Int} {m : Str} (h : m ≠ "number") : (fsN k).lookup m = none := by
  unfold fsN
  rw [List.lookup_cons]
  have : (m == "number") = false := beq_eq_false_iff_ne.mpr h
  rw [this]
  rfl
theorem scInit : FnScope ["self", "number"] ["self", "number"] (defScope sInit) := ⟨rfl, rfl, rfl, by decide +kernel, rfl, by decide +kernel, by decide +kernel⟩
def spInit (C : Addr) : Sp := fun vs H Q _ => ∃ (x dx : Addr) (k : Int), vs = [.ref x, .int k] ∧ 1 ≤ k ∧ k ≤ 12 ∧ H x = some (.ins C dx []) ∧ Q .non (upd H x (.ins C dx (fsN k)))
theorem ok_init {C f : Addr} {fd : FuncData} (F : Fun K "__init__" "Console.__init__" sInit f fd) (G : Glo mg) (T : Cons K C) (kC : Kp P w K mg base 3 "check_number" ["number", "least", "most"] spCheckNumber) : FnOk P w K mg base CX0 4 f fd ["self", "number"] (spInit C) := by
  refine F.ok scInit (fun vs H Q E h => ?_) (fun cdv A outer s H vs Q E hr h => ?_)
  · obtain ⟨x, dx, k, rfl, _⟩ := h
    rfl
  · obtain ⟨x, dx, k, rfl, h1, h2, hx, q⟩ := h
    refine ⟨_, pss_cons (ps_expr (pe_K kC hr (pa_cons (pv 1) (pa_cons pe_int (p1 (pe_cint G.cArches)))))) (pss_one (ps_fld (pv 0) (pv 1) rfl)), ?_⟩
    refine ⟨_, rfl, k, 1, 12, rfl, h1, h2, ?_⟩
    exact ⟨_, rfl, _, rfl, x, C, dx, [], rfl, hx, T.cl, T.nN, (by show 0 < 1000; decide), q⟩
theorem scOwn : FnScope ["self", "word"] ["self", "word"] (defScope sOwn) := ⟨rfl, rfl, rfl, by decide +kernel, rfl, by decide +kernel, by decide +kernel⟩
def spOwn : Sp := fun vs H Q _ => ∃ (x : Addr) (z : Str), vs = [.ref x, .str z] ∧ z.length ≤ 24 ∧ z ≠ "" ∧ (∀ c ∈ z.cps.toList, c ∉ ("()" : Str).cps.toList) ∧ ∀ H', Same H H' → Q (.bl false) H'
theorem ok_own {f : Addr} {fd : FuncData} (F : Fun K "is_own" "Console.is_own" sOwn f fd) (kR : Kp P w K mg base 2 "is_row" ["value"] spIsRow) : FnOk P w K mg base CX0 3 f fd ["self", "word"] spOwn := by
  refine F.ok scOwn (fun vs H Q E h => ?_) (fun cdv A outer s H vs Q E hr h => ?_)
  · obtain ⟨x, z, rfl, _⟩ := h
    rfl
  · obtain ⟨x, z, rfl, hz, h0, hc, q⟩ := h
    refine ⟨_, pss_one (ps_ret (pe_and (pe_K kR hr (p1 (pv 1))) pe_no)), ?_⟩
    exact ⟨_, rfl, z, rfl, hz, h0, hc, fun H1 sm => ⟨false, rfl, iteF (q H1 sm)⟩⟩
theorem scOther : FnScope ["self", "word", "told", "number", "layers"] ["self", "word", "told"] (defScope sOther) := ⟨rfl, rfl, rfl, by decide +kernel, rfl, by decide +kernel, by decide +kernel⟩
def spOther : Sp := fun vs H Q _ => ∃ (x : Addr) (m : Nat), vs = [.ref x, .str "rounds", .str (D (m : Int))] ∧ 1 ≤ m ∧ m ≤ 200 ∧ ∀ H', Same H H' → Q (.str (D (roundsI m))) H'
theorem log_small {z : Int} (h0 : 0 ≤ z) (h : z < 2 ^ 200) : z.natAbs.log2 < 1920 := by
  have h1 : z.natAbs < 2 ^ 200 := by omega
  by_cases hz : z.natAbs = 0
  · rw [hz]
    decide
  · have := (Nat.log2_lt hz).mpr h1
    omega
theorem ok_other {f : Addr} {fd : FuncData} (F : Fun K "other_answer" "Console.other_answer" sOther f fd) (G : Glo mg) (kN : Kp P w K mg base 1 "number_in" ["word"] spNumberIn) (kB : Kp P w K mg base 2 "is_between" ["value", "least", "most"] spBetween)
    (kR : Kp P w K mg base 2 "rounds_by" ["number"] spRoundsBy) : FnOk P w K mg base CX0 3 f fd ["self", "word", "told"] spOther := by
  refine F.ok scOther (fun vs H Q E h => ?_) (fun cdv A outer s H vs Q E hr h => ?_)
  · obtain ⟨x, m, rfl, _⟩ := h
    rfl
  · obtain ⟨x, m, rfl, h1, h2, q⟩ := h
    have o := okN_s h1 h2
    refine ⟨_, pss_cons (ps_set (i := 3) scOther.nd rfl (.inl rfl) (pe_K kN hr (p1 (pv 2))))
      (pss_cons (ps_if (PW.pt (pw_and (pt_cmpR op_eq (pv 1) pe_str (nomark _)) pw_no)) pss_never pss_nil)
      (pss_cons (ps_if (PW.pt (pw_and (pt_cmpR op_eq (pv 1) pe_str (nomark _)) (pw_and1 (pt_val (pe_K kB hr (pa_cons (pv 3) (pa_cons pe_int (p1 (pe_cint G.cRound))))))))) (pss_one (ps_ret (cT call_str_int G.bStr (p1 (pe_K kR hr (p1 (pv 3))))))) pss_nil) pss_never)), ?_⟩
    refine ⟨_, rfl, m, rfl, h1, h2, fun H1 s1 => ?_⟩
    refine ⟨_, rfl, rfl, _, rfl, ?_⟩
    rw [dec_str (a := "rounds") (b := "row") (by decide +kernel)]
    refine iteF (iteF ?_)
    refine ⟨_, rfl, rfl, _, rfl, ?_⟩
    rw [decide_eq_true (show V.str "rounds" = V.str "rounds" from rfl)]
    refine iteT ⟨_, rfl, (m : Int), 1, 200, rfl, by omega, by omega, true, rfl, iteT ?_⟩
    exact ⟨_, rfl, m, rfl, h1, h2, fun H2 s2 => ⟨_, rfl, log_small o.low o.high, q H2 (s1.trans s2)⟩⟩
theorem scAnswer : FnScope ["self", "words"] ["self", "words"] (defScope sAnswer) := ⟨rfl, rfl, rfl, by decide +kernel, rfl, by decide +kernel, by decide +kernel⟩
def spAnswer (C : Addr) : Sp := fun vs H Q _ => ∃ (x dx p : Addr) (k : Int) (m : Nat), vs = [.ref x, .ref p] ∧ H x = some (.ins C dx (fsN k)) ∧ H p = some (.lst [.str "rounds", .str (D (m : Int))]) ∧ 1 ≤ m ∧ m ≤ 200 ∧ ∀ H', Same H H' → Q (.str (D (roundsI m))) H'
theorem ok_answer {C f fO fR : Addr} {fd fdO fdR : FuncData} (F : Fun K "answer" "Console.answer" sAnswer f fd) (G : Glo mg) (T : Cons K C)
    (GO : FnOk P w K mg base CX0 3 fO fdO ["self", "word"] spOwn) (bO : Binds K fdO ["self", "word"] []) (mO : Meth K C "is_own" fO)
    (GR : FnOk P w K mg base CX0 3 fR fdR ["self", "word", "told"] spOther) (bR : Binds K fdR ["self", "word", "told"] []) (mR : Meth K C "other_answer" fR) : FnOk P w K mg base CX0 4 f fd ["self", "words"] (spAnswer C) := by
  refine F.ok scAnswer (fun vs H Q E h => ?_) (fun cdv A outer s H vs Q E hr h => ?_)
  · obtain ⟨x, dx, p, k, m, rfl, _⟩ := h
    rfl
  · obtain ⟨x, dx, p, k, m, rfl, hx, hp, h1, h2, q⟩ := h
    have o := figOk_s h1 h2
    refine ⟨_, pss_cons (ps_if (pt_cmpR op_eq (cB call_len_seq G.bLen (p1 (pv 1))) pe_int (nomark _)) pss_never pss_nil)
      (pss_cons (ps_if (pt_cmpR op_eq (cB call_len_seq G.bLen (p1 (pv 1))) pe_int (nomark _)) pss_never pss_nil)
      (pss_cons (ps_if (pt_cmpR op_ne (cB call_len_seq G.bLen (p1 (pv 1))) pe_int (nomark _)) pss_never pss_nil)
      (pss_cons (ps_if (pt_val (pe_meth (pv 0) T.cl mO GO hr bO .nil pass0 (p1 (pe_ix ix_list (pv 1) pe_int (fun _ _ => rfl))))) pss_never pss_nil)
      (pss_one (ps_ret (pe_meth (pv 0) T.cl mR GR hr bR .nil pass0 (pa_cons (pe_ix ix_list (pv 1) pe_int (fun _ _ => rfl)) (p1 (pe_ix ix_list (pv 1) pe_int (fun _ _ => rfl)))))))))), ?_⟩
    have hno1 : (fsN k).lookup ("is_own" : Str) = none := fsN_no (m := "is_own") (by decide +kernel)
    have hno2 : (fsN k).lookup ("other_answer" : Str) = none := fsN_no (m := "other_answer") (by decide +kernel)
    refine ⟨_, rfl, p, _, rfl, .inl (SqL.of hp), rfl, false, rfl, iteF ?_⟩
    refine ⟨_, rfl, p, _, rfl, .inl (SqL.of hp), rfl, false, rfl, iteF ?_⟩
    refine ⟨_, rfl, p, _, rfl, .inl (SqL.of hp), rfl, false, rfl, iteF ?_⟩
    refine ⟨_, rfl, x, dx, _, rfl, hx, hno1, _, rfl, p, _, 1, .str (D (m : Int)), rfl, rfl, SqL.of hp, rfl, x, D (m : Int), rfl, by have := o.len; omega, o.ne, fun c hc => (o.figs c hc).2, fun H1 s1 => ⟨false, rfl, iteF ?_⟩⟩
    refine ⟨_, rfl, x, dx, _, rfl, s1 _ _ hx, hno2, _, rfl, p, _, 0, .str "rounds", rfl, rfl, SqL.of (s1 _ _ hp), rfl, _, rfl, p, _, 1, .str (D (m : Int)), rfl, rfl, SqL.of (s1 _ _ hp), rfl, x, m, rfl, h1, h2, fun H2 s2 => q H2 (s1.trans s2)⟩
theorem scSay : FnScope ["self", "line", "found"] ["self", "line"] (defScope sSay) := ⟨rfl, rfl, rfl, by decide +kernel, rfl, by decide +kernel, by decide +kernel⟩
def spSay (C : Addr) : Sp := fun vs H Q _ => ∃ (x dx : Addr) (k : Int) (m : Nat), vs = [.ref x, .str (("rounds " : Str) ++ D (m : Int))] ∧ H x = some (.ins C dx (fsN k)) ∧ 1 ≤ m ∧ m ≤ 200 ∧ ∀ H', Same H H' → Q (.str (D (roundsI m))) H'
theorem ok_say {C f fA : Addr} {fd fdA : FuncData} (F : Fun K "say" "Console.say" sSay f fd) (G : Glo mg) (T : Cons K C)
    (GA : FnOk P w K mg base CX0 4 fA fdA ["self", "words"] (spAnswer C)) (bA : Binds K fdA ["self", "words"] []) (mA : Meth K C "answer" fA) : FnOk P w K mg base CX0 5 f fd ["self", "line"] (spSay C) := by
  refine F.ok scSay (fun vs H Q E h => ?_) (fun cdv A outer s H vs Q E hr h => ?_)
  · obtain ⟨x, dx, k, m, rfl, _⟩ := h
    rfl
  · obtain ⟨x, dx, k, m, rfl, hx, h1, h2, q⟩ := h
    have o := figOk_s h1 h2
    refine ⟨_, pss_cons (ps_set (i := 2) scSay.nd rfl (.inl rfl) (pe_ifExp (pt_val (cB call_isi G.bIsinstance (pa_cons (pv 1) (p1 (pe_bltn (v := .ty "str") (by rfl) G.bStr (by decide +kernel) rfl)))))
        (pe_meth (pv 0) T.cl mA GA hr bA .nil pass0 (p1 (pe_split (pv 1) pe_str))) pe_non))
      (pss_cons (ps_if (pt_cmpR op_isN (pv 2) pe_non (nomark _)) (pss_one ps_never) pss_nil) (pss_one (ps_ret (pv 2)))), ?_⟩
    have hno : (fsN k).lookup ("answer" : Str) = none := fsN_no (m := "answer") (by decide +kernel)
    have hl : (("rounds " : Str) ++ D (m : Int)).length = 7 + (D (m : Int)).length := by
      show ((("rounds " : Str)).cps ++ (D (m : Int)).cps).size = _
      rw [Array.size_append]
      rfl
    refine ⟨_, rfl, .str _, .ty "str", .type "str", .type "str", true, rfl, .ty _, .base (.str _), kit_ty (by decide +kernel), true, rfl, iteT ?_⟩
    refine ⟨_, rfl, x, dx, _, rfl, hx, hno, _, rfl, ⟨_, rfl⟩, _, _, rfl, rfl, by decide +kernel, ?_, fun p np => ?_⟩
    · rw [hl, sizeLine_eq]
      have := o.len
      omega
    · have hxp : (upd H p (.lst ((Txt.split (("rounds " : Str) ++ D (m : Int)) " ").map V.str))) x = some (.ins C dx (fsN k)) := by rw [upd_ne (ne_of_none hx np)]; exact hx
      refine ⟨x, dx, p, k, m, rfl, hxp, ?_, h1, h2, fun H2 s2 => ?_⟩
      · rw [upd_same, o.parts]
        rfl
      · refine ⟨_, rfl, rfl, false, rfl, iteF ⟨_, rfl, q H2 ((same_new np).trans s2)⟩⟩
end
end FW
set_option Elab.async false
set_option linter.all false
set_option maxRecDepth 100000
set_option maxHeartbeats 4000000
/-! the law's draws. -/
namespace FW
open PySem PySem.Spec PyProof.Rows L2
open PySem.W (EachIs)
abbrev sBox : Stmt := top 78
abbrev sDice : Stmt := top 79
abbrev sOf : Stmt := top 80
abbrev sLetters : Stmt := top 81

/-- where draws come from -/
def BoxAt (H : Hp) (p : Addr) : Prop := ∃ g sd c : Int, H p = some (.lst [.int g, .int sd, .int c]) ∧ 0 ≤ g ∧ 0 ≤ sd ∧ sd < 2147483543
/-- all but p stands -/
def KB (p : Addr) (H H' : Hp) : Prop := ∀ b o, b ≠ p → H b = some o → H' b = some o
theorem KB.refl (p : Addr) (H : Hp) : KB p H H := fun _ _ _ e => e
theorem KB.trans {p : Addr} {H H1 H2 : Hp} (a : KB p H H1) (b : KB p H1 H2) : KB p H H2 := fun c o n e => b c o n (a c o n e)
theorem KB.same {p : Addr} {H H' : Hp} (s : Same H H') : KB p H H' := fun b o _ e => s b o e
theorem KB.put {p : Addr} {H : Hp} {o : HO} : KB p H (upd H p o) := fun b x n e => by rw [upd_ne n]; exact e
theorem KB.out {p : Addr} {H H1 H2 : Hp} (s : Same H H1) (n : H p = none) (k : KB p H1 H2) : Same H H2 := fun b o e => k b o (ne_of_none e n) (s b o e)
theorem BoxAt.same {H H' : Hp} {p : Addr} (b : BoxAt H p) (s : Same H H') : BoxAt H' p := by
  obtain ⟨g, sd, c, e, r⟩ := b
  exact ⟨g, sd, c, s _ _ e, r⟩
theorem fold_ge (M : List (List Nat)) : True := trivial
section
variable {P : Program} {w : World} {K : PySem.W.Frag} {mg : Str → Option Value} {base : Heap}
theorem scBox : FnScope ["_law_script", "_law_k", "_law_own", "_law_seed", "_law_cell", "_law_great"] ["_law_script", "_law_k"] (defScope sBox) := ⟨rfl, rfl, rfl, by decide +kernel, rfl, by decide +kernel, by decide +kernel⟩
def spBox (K : PySem.W.Frag) : Sp := fun vs H Q _ => ∃ (a : Addr) (ns : List Int) (k : Nat), vs = [.ref a, .int (k : Int)] ∧ SqL K H a (ns.map V.int) ∧ ns.length ≤ 63 ∧ k ≤ 3 ∧ ∀ H' p, Same H H' → H p = none → BoxAt H' p → Q (.ref p) H'
theorem ok_box {f : Addr} {fd : FuncData} (F : Fun K "_law_box" "_law_box" sBox f fd) (G : Glo mg) : FnOk P w K mg base CX0 1 f fd ["_law_script", "_law_k"] (spBox K) := by
  refine F.ok scBox (fun vs H Q E h => ?_) (fun cdv A outer s H vs Q E hr h => ?_)
  · obtain ⟨a, ns, k, rfl, _⟩ := h
    rfl
  · obtain ⟨a, ns, k, rfl, ha, hns, hk, q⟩ := h
    refine ⟨_, pss_cons (ps_set (i := 2) scBox.nd rfl (.inl rfl) (pe_ifExp (pt_cmpR op_lt (pv 1) (cB call_len_seq G.bLen (p1 (pv 0))) (nomark _))
        (cT call_int1 G.bInt (p1 (pe_ix ix_list (pv 0) (pv 1) (fun _ _ => rfl)))) (pe_op op_add (pe_op op_mul pe_int (pv 1)) pe_int)))
      (pss_cons (ps_set (i := 3) scBox.nd rfl (.inl rfl) (pe_op op_add pe_int (pe_op op_mul pe_int (pv 1))))
      (pss_cons (ps_for PassesOwn.never rfl (pi_list (pe_slice sl_list (pv 0) po_none (po_some pe_int))) (pg_name (i := 4) scBox.nd rfl (.inl rfl))
        (pss_one (ps_set (i := 3) scBox.nd rfl (.inl rfl) (pe_op op_mod (cT call_int1 G.bInt (p1 (pe_op op_add (pe_op op_add (pe_op op_mul (pv 3) pe_int) (pe_op op_mod (cT call_int1 G.bInt (p1 (pv 4))) pe_int)) (pv 1)))) pe_int))))
      (pss_cons (ps_set (i := 5) scBox.nd rfl (.inl rfl) (pe_ifExp (PW.pt (pw_or (pt_cmpR op_lt (pv 2) pe_int (nomark _)) (pw_or1 (pt_cmpR op_ge (pv 2) (pe_op op_pow pe_int pe_int) (nomark _))))) (cB call_abs G.bAbs (p1 (pv 2))) pe_int))
      (pss_one (ps_ret (pe_lst (pa_cons (pv 5) (pa_cons (pe_op op_mod (cT call_int1 G.bInt (p1 (pe_op op_add (pe_op op_mul (pv 3) pe_int) (pe_op op_mod (cT call_int1 G.bInt (p1 (pv 2))) pe_int)))) pe_int) (p1 pe_int))))))))), ?_⟩
    have rest : ∀ own : Int, tSeq (tAsg (tOp (rI0 fun i j => V.int (i + j)) (tC (V.int 92821)) (tOp (rI CMul fun i j => V.int (i * j)) (tC (V.int 6007)) (tVar 1))) (gName 3))
      (tSeq (tFor (iList K (tSl (rSlL K) (tVar 0) tNoPart (tPart (tC (V.int 7))))) (gName 4)
        (tAsg (tOp (rI (fun _ j => 0 < j) fun i j => V.int (i % j)) (tCB (fun xs H Q => (∃ i, xs = [.int i] ∧ Q (.int i) H) ∨ ∃ k, xs = [.bl k] ∧ Q (.int (if k then 1 else 0)) H) (tCons (tOp (rI0 fun i j => V.int (i + j)) (tOp (rI0 fun i j => V.int (i + j)) (tOp (rI CMul fun i j => V.int (i * j)) (tVar 3) (tC (V.int 31337))) (tOp (rI (fun _ j => 0 < j) fun i j => V.int (i % j)) (tCB (fun xs H Q => (∃ i, xs = [.int i] ∧ Q (.int i) H) ∨ ∃ k, xs = [.bl k] ∧ Q (.int (if k then 1 else 0)) H) (tCons (tVar 4) tNil)) (tC (V.int 1000151)))) (tVar 1)) tNil)) (tC (V.int 2147483543))) (gName 3)))
      (tSeq (tAsg (tIf (tOr (tTest (tOp (rI0 fun i j => V.bl (decide (i < j))) (tVar 2) (tC (V.int 0)))) (tTest (tOp (rI0 fun i j => V.bl (decide (j ≤ i))) (tVar 2) (tOp (rI CPow fun i j => V.int (i ^ j.toNat)) (tC (V.int 10)) (tC (V.int 18)))))) (tCB (fun xs H Q => ∃ i, xs = [.int i] ∧ Q (.int (if i < 0 then -i else i)) H) (tCons (tVar 2) tNil)) (tC (V.int 0))) (gName 5))
        (tRet (tLst (tCons (tVar 5) (tCons (tOp (rI (fun _ j => 0 < j) fun i j => V.int (i % j)) (tCB (fun xs H Q => (∃ i, xs = [.int i] ∧ Q (.int i) H) ∨ ∃ k, xs = [.bl k] ∧ Q (.int (if k then 1 else 0)) H) (tCons (tOp (rI0 fun i j => V.int (i + j)) (tOp (rI CMul fun i j => V.int (i * j)) (tVar 3) (tC (V.int 40014))) (tOp (rI (fun _ j => 0 < j) fun i j => V.int (i % j)) (tCB (fun xs H Q => (∃ i, xs = [.int i] ∧ Q (.int i) H) ∨ ∃ k, xs = [.bl k] ∧ Q (.int (if k then 1 else 0)) H) (tCons (tVar 2) tNil)) (tC (V.int 2147483543)))) tNil)) (tC (V.int 2147483543))) (tCons (tC (V.int 0)) tNil)))))))
        { nx := fun _ H' => Q .non H', rt := Q } [some (.ref a), some (.int (k : Int)), some (.int own), none, none, none] H := by
      intro own
      refine ⟨_, rfl, _, _, rfl, rfl, .inl ⟨by decide, by decide⟩, _, _, rfl, rfl, ?_⟩
      refine ⟨_, rfl, 7, rfl, a, _, rfl, ha, fun c nc => ⟨c, rfl, ⟨_, SqL.of upd_same⟩, ?_⟩⟩
      refine for_list (K := K) (a := c) (xs := cutV (ns.map V.int) none (some 7)) (fun i σ H' => Same (upd H c (.lst (cutV (ns.map V.int) none (some 7)))) H' ∧ ∃ (sd : Int) (y : Option V), σ = [some (.ref a), some (.int (k : Int)), some (.int own), some (.int sd), y, none]) ⟨Same.refl _, _, none, rfl⟩ (fun i σ H' _ ⟨s, _⟩ => s.seq (SqL.of upd_same)) ?_ ?_
      · rintro i x σ H' hx ⟨sm, sd, y, rfl⟩
        obtain ⟨z, rfl⟩ : ∃ z, x = V.int z := by
          have hm := List.mem_of_getElem? hx
          unfold cutV at hm
          have hm2 := List.mem_of_mem_drop (List.mem_of_mem_take hm)
          obtain ⟨z, _, e⟩ := List.mem_map.mp hm2
          exact ⟨z, e.symm⟩
        refine ⟨_, rfl, _, _, rfl, rfl, .inr ⟨by decide, by decide⟩, _, rfl, .inl ⟨z, rfl, ?_⟩⟩
        refine ⟨_, _, rfl, rfl, by show (0 : Int) < 1000151; decide, _, _, rfl, rfl, _, rfl, _, _, rfl, rfl, .inl ⟨_, rfl, ?_⟩⟩
        exact ⟨_, _, rfl, rfl, by show (0 : Int) < 2147483543; decide, sm, _, _, rfl⟩
      · rintro σ H' ⟨sm, sd, y, rfl⟩
        have fin : ∀ g : Int, 0 ≤ g → tRet (tLst (tCons (tVar 5) (tCons (tOp (rI (fun _ j => 0 < j) fun i j => V.int (i % j)) (tCB (fun xs H Q => (∃ i, xs = [.int i] ∧ Q (.int i) H) ∨ ∃ k, xs = [.bl k] ∧ Q (.int (if k then 1 else 0)) H) (tCons (tOp (rI0 fun i j => V.int (i + j)) (tOp (rI CMul fun i j => V.int (i * j)) (tVar 3) (tC (V.int 40014))) (tOp (rI (fun _ j => 0 < j) fun i j => V.int (i % j)) (tCB (fun xs H Q => (∃ i, xs = [.int i] ∧ Q (.int i) H) ∨ ∃ k, xs = [.bl k] ∧ Q (.int (if k then 1 else 0)) H) (tCons (tVar 2) tNil)) (tC (V.int 2147483543)))) tNil)) (tC (V.int 2147483543))) (tCons (tC (V.int 0)) tNil))))
            { nx := fun _ H' => Q .non H', rt := Q } [some (.ref a), some (.int (k : Int)), some (.int own), some (.int sd), y, some (.int g)] H' := by
          intro g hg
          refine ⟨_, rfl, _, rfl, _, _, rfl, rfl, .inr ⟨by decide, by decide⟩, _, rfl, .inl ⟨own, rfl, ?_⟩⟩
          refine ⟨_, _, rfl, rfl, by show (0 : Int) < 2147483543; decide, _, _, rfl, rfl, .inl ⟨_, rfl, ?_⟩⟩
          refine ⟨_, _, rfl, rfl, by show (0 : Int) < 2147483543; decide, by show 3 ≤ sizeLine; decide, fun p np => ?_⟩
          have sA : Same H H' := (same_new nc).trans sm
          refine q _ p (sA.trans (same_new np)) (sA.free np) ⟨g, _, 0, upd_same, hg, Int.emod_nonneg _ (by decide), Int.emod_lt_of_pos _ (by decide)⟩
        refine ⟨_, rfl, _, _, rfl, rfl, _, rfl, ?_⟩
        by_cases h0 : own < 0
        · rw [decide_eq_true h0]
          refine iteT (iteT ⟨_, rfl, own, rfl, ?_⟩)
          refine fin _ ?_
          rw [if_pos h0]
          omega
        · rw [decide_eq_false h0]
          refine iteF ⟨_, rfl, _, _, rfl, rfl, ⟨by decide, by decide, by decide⟩, _, _, rfl, rfl, _, rfl, ?_⟩
          refine ite2 (fun _ => ⟨_, rfl, own, rfl, fin _ ?_⟩) (fun _ => fin 0 (Int.le_refl 0))
          rw [if_neg h0]
          omega
    refine ⟨_, rfl, _, rfl, a, _, rfl, .inl ha, _, _, rfl, rfl, _, rfl, ?_⟩
    by_cases hkl : (k : Int) < ((ns.map V.int).length : Int)
    · rw [decide_eq_true hkl]
      rw [List.length_map] at hkl
      have hk2 : k < ns.length := by omega
      have hat : atI (ns.map V.int) (k : Int) = some (V.int ns[k]) := atI_nat (by rw [List.getElem?_map, List.getElem?_eq_getElem hk2]; rfl)
      exact iteT ⟨_, rfl, _, rfl, a, _, (k : Int), _, rfl, rfl, ha, hat, .inl ⟨_, rfl, rest _⟩⟩
    · rw [decide_eq_false hkl]
      exact iteF ⟨_, rfl, _, _, rfl, rfl, .inl ⟨by decide, by decide⟩, _, _, rfl, rfl, rest _⟩

/-! ### one draw -/
theorem scDice : FnScope ["_law_box_here", "_law_sides", "_law_face", "_law_old", "_law_by"] ["_law_box_here", "_law_sides"] (defScope sDice) := ⟨rfl, rfl, rfl, by decide +kernel, rfl, by decide +kernel, by decide +kernel⟩
def spDice : Sp := fun vs H Q _ => ∃ (p : Addr) (sides : Int), vs = [.ref p, .int sides] ∧ BoxAt H p ∧ 1 ≤ sides ∧ sides ≤ 1000 ∧ ∀ H' face, KB p H H' → BoxAt H' p → 0 ≤ face → face < sides → Q (.int face) H'
theorem ok_dice {f : Addr} {fd : FuncData} (F : Fun K "_law_dice" "_law_dice" sDice f fd) (G : Glo mg) : FnOk P w K mg base CX0 1 f fd ["_law_box_here", "_law_sides"] spDice := by
  refine F.ok scDice (fun vs H Q E h => ?_) (fun cdv A outer s H vs Q E hr h => ?_)
  · obtain ⟨p, n, rfl, _⟩ := h
    rfl
  · obtain ⟨p, n, rfl, ⟨g, sd, c, hp, hg, hs1, hs2⟩, hn1, hn2, q⟩ := h
    refine ⟨_, pss_cons (ps_asg (pe_op op_add (pe_ix ix_list (pv 0) pe_int (fun _ _ => rfl)) pe_int) (pg_sub (pv 0) pe_int set_list))
      (pss_cons (ps_if (pt_cmpR op_gt (pe_ix ix_list (pv 0) pe_int (fun _ _ => rfl)) pe_int (nomark _))
        (pss_cons (ps_asg (cB call_divmod G.bDivmod (pa_cons (pe_ix ix_list (pv 0) pe_int (fun _ _ => rfl)) (p1 (pv 1)))) (pg_tup rfl (pgs_cons (pg_sub (pv 0) pe_int set_list) (pgs_cons (pg_name (i := 2) scDice.nd rfl (.inl rfl)) pgs_nil)))) (pss_one (ps_ret (pv 2)))) pss_nil)
      (pss_cons (ps_set (i := 3) scDice.nd rfl (.inl rfl) (cT call_int1 G.bInt (p1 (pe_ix ix_list (pv 0) pe_int (fun _ _ => rfl)))))
      (pss_cons (ps_set (i := 4) scDice.nd rfl (.inl rfl) (pe_op op_add (pe_op op_mod (cT call_int1 G.bInt (p1 (pv 3))) pe_int) pe_int))
      (pss_cons (ps_asg (pe_op op_mod (cT call_int1 G.bInt (p1 (pe_op op_add (pe_op op_add (pe_op op_mul (pv 3) (pv 4)) (pe_op op_mul pe_int (pe_ix ix_list (pv 0) pe_int (fun _ _ => rfl)))) pe_int))) pe_int) (pg_sub (pv 0) pe_int set_list))
      (pss_one (ps_ret (pe_op op_mod (cT call_int1 G.bInt (p1 (pe_op op_fdivN (pe_ix ix_list (pv 0) pe_int (fun _ _ => rfl)) pe_int))) (pv 1)))))))), ?_⟩
    refine ⟨_, rfl, p, _, 2, .int c, rfl, rfl, SqL.of hp, rfl, _, _, rfl, rfl, _, rfl, p, _, 2, 2, rfl, rfl, hp, rfl, ?_⟩
    have h1 : (upd H p (.lst ([V.int g, V.int sd, V.int c].set 2 (V.int (c + 1))))) p = some (.lst [.int g, .int sd, .int (c + 1)]) := upd_same
    refine ⟨_, rfl, p, _, 0, .int g, rfl, rfl, SqL.of h1, rfl, _, _, rfl, rfl, _, rfl, ?_⟩
    by_cases hg0 : 0 < g
    · rw [decide_eq_true hg0]
      refine iteT ⟨_, rfl, p, _, 0, .int g, rfl, rfl, SqL.of h1, rfl, _, rfl, g, n, rfl, ⟨by omega, by omega⟩, fun t nt => ?_⟩
      have ntp : p ≠ t := ne_of_none h1 nt
      refine ⟨t, _, rfl, SqT.of upd_same, rfl, _, _, rfl, _, rfl, p, _, 0, 0, rfl, rfl, (by rw [upd_ne ntp]; exact h1), rfl, _, _, rfl, rfl, ?_⟩
      refine ⟨_, rfl, ?_⟩
      refine q _ _ (KB.trans (KB.put) (KB.trans (KB.same (same_new nt)) KB.put)) ⟨g / n, sd, c + 1, upd_same, Int.ediv_nonneg (by omega) (by omega), hs1, hs2⟩ (Int.emod_nonneg _ (by omega)) (Int.emod_lt_of_pos _ (by omega))
    · rw [decide_eq_false hg0]
      refine iteF ⟨_, rfl, p, _, 1, .int sd, rfl, rfl, SqL.of h1, rfl, .inl ⟨sd, rfl, ?_⟩⟩
      refine ⟨_, rfl, .inl ⟨sd, rfl, ?_⟩⟩
      refine ⟨_, _, rfl, rfl, by show (0 : Int) < 9001; decide, _, _, rfl, rfl, ?_⟩
      refine ⟨_, rfl, _, rfl, _, _, rfl, rfl, .inl ⟨by omega, by omega⟩, _, rfl, p, _, 2, .int (c + 1), rfl, rfl, SqL.of h1, rfl, ?_⟩
      refine ⟨_, _, rfl, rfl, .inl ⟨by decide, by decide⟩, _, _, rfl, rfl, _, _, rfl, rfl, .inl ⟨_, rfl, ?_⟩⟩
      refine ⟨_, _, rfl, rfl, by show (0 : Int) < 2147483543; decide, _, rfl, p, _, 1, 1, rfl, rfl, h1, rfl, ?_⟩
      refine ⟨_, rfl, p, _, 1, _, rfl, rfl, SqL.of upd_same, rfl, _, _, rfl, rfl, ⟨by decide, by decide⟩, .inl ⟨_, rfl, ?_⟩⟩
      refine ⟨_, rfl, _, _, rfl, rfl, by show (0 : Int) < n; omega, ?_⟩
      refine q _ _ (KB.trans KB.put KB.put) ⟨g, _, c + 1, upd_same, hg, Int.emod_nonneg _ (by decide), Int.emod_lt_of_pos _ (by decide)⟩ (Int.emod_nonneg _ (by omega)) (Int.emod_lt_of_pos _ (by omega))
theorem scOf : FnScope ["_law_box_here", "_law_things"] ["_law_box_here", "_law_things"] (defScope sOf) := ⟨rfl, rfl, rfl, by decide +kernel, rfl, by decide +kernel, by decide +kernel⟩
def spOf : Sp := fun vs H Q _ => ∃ (p : Addr) (v : V) (n : Nat), vs = [.ref p, v] ∧ BoxAt H p ∧ 1 ≤ n ∧ n ≤ 1000 ∧
  ((∃ z : Str, v = .str z ∧ z.length = n ∧ ∀ (i c : Nat) (H' : Hp), KB p H H' → BoxAt H' p → z.cps[i]? = some c → Q (.str ⟨#[c]⟩) H') ∨
   ∃ (l : Addr) (xs : List V), v = .ref l ∧ l ≠ p ∧ H l = some (.lst xs) ∧ xs.length = n ∧ ∀ (i : Nat) (x : V) (H' : Hp), KB p H H' → BoxAt H' p → xs[i]? = some x → Q x H')
theorem ok_of {f : Addr} {fd : FuncData} (F : Fun K "_law_of" "_law_of" sOf f fd) (G : Glo mg) (kD : Kp P w K mg base 1 "_law_dice" ["_law_box_here", "_law_sides"] spDice) : FnOk P w K mg base CX0 2 f fd ["_law_box_here", "_law_things"] spOf := by
  refine F.ok scOf (fun vs H Q E h => ?_) (fun cdv A outer s H vs Q E hr h => ?_)
  · obtain ⟨p, v, n, rfl, _⟩ := h
    rfl
  · obtain ⟨p, v, n, rfl, hb, hn1, hn2, h⟩ := h
    refine ⟨_, pss_one (ps_ret (pe_ix ix_seq (pv 1) (pe_K kD hr (pa_cons (pv 0) (p1 (cB call_len G.bLen (p1 (pv 1)))))) (fun _ _ => rfl))), ?_⟩
    rcases h with ⟨z, rfl, hz, q⟩ | ⟨l, xs, rfl, hlp, hl, hx, q⟩
    · have hline : z.length ≤ sizeLine := by rw [sizeLine_eq]; omega
      refine ⟨_, rfl, _, rfl, _, rfl, .str z, n, rfl, ⟨hline, hz.symm⟩, p, (n : Int), rfl, hb, by omega, by omega, fun H1 face k b h0 h1 => ?_⟩
      obtain ⟨i, rfl⟩ : ∃ i : Nat, face = (i : Int) := ⟨face.toNat, by omega⟩
      have hi : i < z.cps.size := by have : z.cps.size = z.length := rfl; omega
      have hc : z.cps[i]? = some z.cps[i] := Array.getElem?_eq_getElem hi
      refine .inr (.inr ⟨z, (i : Int), z.cps[i], rfl, rfl, hline, atI_nat (by rw [Array.getElem?_toList]; exact hc), q i _ H1 k b hc⟩)
    · refine ⟨_, rfl, _, rfl, _, rfl, .ref l, n, rfl, .inl ⟨xs, SqL.of hl, hx.symm⟩, p, (n : Int), rfl, hb, by omega, by omega, fun H1 face k b h0 h1 => ?_⟩
      obtain ⟨i, rfl⟩ : ∃ i : Nat, face = (i : Int) := ⟨face.toNat, by omega⟩
      have hi : i < xs.length := by omega
      refine .inl ⟨l, xs, (i : Int), xs[i], rfl, rfl, SqL.of (k _ _ hlp hl), atI_nat (List.getElem?_eq_getElem hi), q i _ H1 k b (List.getElem?_eq_getElem hi)⟩

/-! ### drawn letters -/
theorem join_tx : ∀ v : Wd, Txt.join "" (v.map sg) = tx v := fun v => by
  have e0 : (("" : Str)).cps = #[] := by decide +kernel
  have go : ∀ (l : Wd) (acc : Wd), (l.map sg).foldl (fun acc p => acc ++ (("" : Str)).cps ++ p.cps) (tx acc).cps = (tx (acc ++ l)).cps := fun l => by
    induction l with
    | nil => intro acc; simp
    | cons b l ih =>
      intro acc
      rw [List.map_cons, List.foldl_cons, e0, Array.append_empty]
      have e : (tx acc).cps ++ (sg b).cps = (tx (acc ++ [b])).cps := congrArg Str.cps (t2_app 108 114 acc [b])
      rw [e]
      have ih2 := ih (acc ++ [b])
      rw [e0] at ih2
      rw [ih2, List.append_assoc]
      rfl
  show Builtin.Str.glued "" (v.map sg) = tx v
  unfold Builtin.Str.glued
  cases v with
  | nil =>
    show (⟨(([] : List Str).drop 1).foldl _ (Str.empty).cps⟩ : Str) = tx []
    decide +kernel
  | cons b l =>
    have h1 : ((b :: l).map sg).drop 1 = l.map sg := rfl
    have h2 : ((b :: l).map sg).headD Str.empty = sg b := rfl
    rw [h1, h2]
    have g := go l [b]
    have g2 : (tx [b]).cps = (sg b).cps := rfl
    rw [g2] at g
    rw [g]
    rfl
theorem lr_get {i c : Nat} (h : (("lr" : Str)).cps[i]? = some c) : ∃ b, (⟨#[c]⟩ : Str) = sg b := by
  have e : ("lr" : Str) = tx [false, true] := by decide +kernel
  rw [e] at h
  obtain ⟨b, _, e2⟩ := tx_sign h
  exact ⟨b, e2⟩
theorem scLetters : FnScope ["_law_box_here", "_law_many", "_law_k"] ["_law_box_here", "_law_many"] (defScope sLetters) := ⟨rfl, rfl, rfl, by decide +kernel, rfl, by decide +kernel, by decide +kernel⟩
def spLetters : Sp := fun vs H Q _ => ∃ (p : Addr) (n : Nat), vs = [.ref p, .int (n : Int)] ∧ BoxAt H p ∧ n ≤ 100 ∧ ∀ (v : Wd) (H' : Hp), v.length = n → KB p H H' → BoxAt H' p → Q (.str (tx v)) H'
theorem ok_letters {f : Addr} {fd : FuncData} (F : Fun K "_law_letters" "_law_letters" sLetters f fd) (G : Glo mg) (kO : Kp P w K mg base 2 "_law_of" ["_law_box_here", "_law_things"] spOf) : FnOk P w K mg base CX0 3 f fd ["_law_box_here", "_law_many"] spLetters := by
  refine F.ok scLetters (fun vs H Q E h => ?_) (fun cdv A outer s H vs Q E hr h => ?_)
  · obtain ⟨p, n, rfl, _⟩ := h
    rfl
  · obtain ⟨p, n, rfl, hb, hn, q⟩ := h
    refine ⟨_, pss_one (ps_ret (pe_join pe_str (pe_lc (own := [("_law_k", 2)]) (g := gName 2) (tt := tYes) rfl scLetters.nd (pi_range1 (by rfl) G.bRange (p1 (pv 1))) (blkOk_by (N := ["_law_box_here", "_law_many", "_law_k"]) (sc := defScope sLetters) (by decide +kernel))
          (fun _ _ _ _ _ => pg_name (i := 2) scLetters.nd rfl (Or.inl rfl)) (fun _ _ _ _ _ => pts_nil) (fun _ _ _ _ _ => pe_K kO hr (pa_cons (pv 0) (p1 pe_str)))))), ?_⟩
    refine ⟨⟨_, rfl⟩, _, rfl, (n : Int), rfl, by omega, by omega, ?_⟩
    rw [Int.toNat_natCast]
    intro Dd nD
    have hbp := hb
    obtain ⟨g0, sd0, c0, hp0, _⟩ := hbp
    have npD : p ≠ Dd := ne_of_none hp0 nD
    refine lc_it walk_range (fun i H' => KB p H H' ∧ BoxAt H' p ∧ ∃ v : Wd, v.length = i ∧ H' Dd = some (.lst (v.map fun b => V.str (sg b)))) ⟨KB.same (same_new nD), hb.same (same_new nD), [], rfl, upd_same⟩ (fun _ _ _ _ => trivial) ?_ ?_
    · rintro i x H1 H2 hi ⟨kb, hb1, v, hv, hD⟩ ⟨rfl, hx⟩
      obtain rfl := int0 i hx
      refine ⟨rfl, ?_⟩
      refine ⟨_, rfl, p, _, 2, rfl, hb1, by decide, by decide, .inl ⟨"lr", rfl, rfl, fun j c H3 k3 b3 hc => ?_⟩⟩
      obtain ⟨b, eb⟩ := lr_get hc
      have hD3 := k3 _ _ npD.symm hD
      refine ⟨_, hD3, ?_, ?_, ?_, v ++ [b], by rw [List.length_append, hv]; rfl, ?_⟩
      · rw [List.length_map, sizeLine_eq]
        omega
      · refine fun b o nb e => ?_
        have e1 := k3 _ _ nb (kb _ _ nb e)
        rw [upd_ne (ne_of_none e nD)]
        exact e1
      · obtain ⟨g, sd, c, e, r⟩ := b3
        exact ⟨g, sd, c, by rw [upd_ne npD]; exact e, r⟩
      · rw [upd_same, eb, List.map_append]
        rfl
    · rintro H1 ⟨kb, hb1, v, hv, hD⟩
      have e : (v.map fun b => V.str (sg b)) = (v.map sg).map V.str := by rw [List.map_map]; rfl
      rw [e] at hD
      refine ⟨_, Dd, v.map sg, rfl, rfl, .inl (SqL.of hD), ?_, ?_⟩
      · have e1 : ((v.map sg).map (·.length)).sum = v.length := by
          have go : ∀ l : Wd, ((l.map sg).map (·.length)).sum = l.length := fun l => by
            induction l with
            | nil => rfl
            | cons b l ih => rw [List.map_cons, List.map_cons, List.sum_cons, ih]; show 1 + l.length = l.length + 1; omega
          exact go v
        have e2 : (("" : Str)).length = 0 := by decide +kernel
        rw [e1, e2, Nat.mul_zero]
        omega
      · rw [join_tx]
        exact q v H1 hv kb hb1
end
end FW
set_option Elab.async false
set_option linter.all false
set_option maxRecDepth 100000
set_option maxHeartbeats 4000000
/-! the law's own reckoning of rounds. -/
namespace FW
open PySem PySem.Spec PyProof.Rows L2
open PySem.W (EachIs alike dataLt)
abbrev sLIsRound : Stmt := top 82
abbrev sLKey : Stmt := top 83
abbrev sLTurns : Stmt := top 84
abbrev sLGreatest : Stmt := top 85
abbrev sLEvery : Stmt := top 86
theorem dp_ints {K : PySem.W.Frag} {H : Hp} : ∀ l : List Int, DpAll K H (l.map V.int) (l.map PyData.int)
  | [] => .nil
  | i :: l => .cons (.int i) (dp_ints l)
theorem shaped_ints (l : List Int) : SeqAt.shaped (.list (l.map PyData.int)) = true := by
  unfold SeqAt.shaped
  rw [Bool.and_eq_true]
  constructor
  · simp only [PyData.canLay0]
    induction l with
    | nil => simp [PyData.canLayAll0]
    | cons i l ih => simp [PyData.canLayAll0, PyData.canLay0, ih]
  · have e : (PyData.list (l.map PyData.int)).depth = 1 := by
      simp only [PyData.depth]
      rw [PySem.W.depth_ints]
    rw [e]
    decide
/-- the numbers that divide, below the length -/
def partsL (v : Wd) : List Nat := (List.range' 1 (v.length - 1)).filter fun k => v.length % k == 0
def saidL (v : Wd) : List Nat := (partsL v).filter fun k => rep (v.take k) (v.length / k) == v
theorem said_nil (v : Wd) : ((saidL v).map fun k : Nat => PyData.int (k : Int)).isEmpty = isR v := by
  have e : saidL v = (List.range' 1 (v.length - 1)).filter fun k => saidBy v k := by
    unfold saidL partsL
    rw [List.filter_filter]
    refine List.filter_congr fun k _ => ?_
    unfold saidBy
    rw [Bool.and_comm]
  rw [e]
  unfold isR
  cases h : (List.range' 1 (v.length - 1)).any fun k => saidBy v k with
  | false =>
    have h2 : ((List.range' 1 (v.length - 1)).filter fun k => saidBy v k) = [] := List.filter_eq_nil_iff.mpr fun k hk => by
      have := List.any_eq_false.mp h k hk
      exact this
    rw [h2]
    rfl
  | true =>
    obtain ⟨k, hk, hs⟩ := List.any_eq_true.mp h
    have hm : k ∈ (List.range' 1 (v.length - 1)).filter fun k => saidBy v k := List.mem_filter.mpr ⟨hk, hs⟩
    cases h2 : (List.range' 1 (v.length - 1)).filter fun k => saidBy v k with
    | nil => rw [h2] at hm; simp at hm
    | cons a l => rfl
theorem eqv_nil (l : List Nat) : PyData.eqv (.list ((l.map fun k : Nat => (k : Int)).map PyData.int)) (.list []) = (l.map fun k : Nat => PyData.int (k : Int)).isEmpty := by
  cases l with
  | nil => simp [PyData.eqv, PyData.eqvAll]
  | cons a l => simp [PyData.eqv, PyData.eqvAll]
section
variable {P : Program} {w : World} {K : PySem.W.Frag} {mg : Str → Option Value} {base : Heap}
theorem scLIsRound : FnScope ["_law_loop", "_law_parts", "_law_k"] ["_law_loop"] (defScope sLIsRound) := ⟨rfl, rfl, rfl, by decide +kernel, rfl, by decide +kernel, by decide +kernel⟩
def spLIsRound : Sp := fun vs H Q _ => ∃ v : Wd, vs = [S v] ∧ v.length ≤ 100 ∧ ∀ H', Same H H' → Q (.bl (isR v)) H'
theorem ok_lIsRound {f : Addr} {fd : FuncData} (F : Fun K "_law_is_round" "_law_is_round" sLIsRound f fd) (G : Glo mg) : FnOk P w K mg base CX0 1 f fd ["_law_loop"] spLIsRound := by
  refine F.ok scLIsRound (fun vs H Q E h => ?_) (fun cdv A outer s H vs Q E hr h => ?_)
  · obtain ⟨v, rfl, _⟩ := h
    rfl
  · obtain ⟨v, rfl, hv, q⟩ := h
    have hline : (tx v).length ≤ sizeLine := wd_line (by omega)
    refine ⟨_, pss_cons (ps_setLc (i := 1) (own := [("_law_k", 2)]) (g := gName 2) rfl scLIsRound.nd rfl rfl (sw_true rfl rfl rfl (by decide +kernel)) (pi_range2 (by rfl) G.bRange (pa_cons pe_int (p1 (cB call_len_str G.bLen (p1 (pv 0))))))
          (blkOk_by (N := ["_law_loop", "_law_parts", "_law_k"]) (sc := defScope sLIsRound) (by decide +kernel)) (fun _ _ _ _ _ => pg_name (i := 2) scLIsRound.nd rfl (Or.inl rfl))
          (fun _ _ _ _ _ => pts_one (pt_cmpR op_eq (pe_op op_mod (cT call_int1 G.bInt (p1 (cB call_len_str G.bLen (p1 (pv 0))))) (pv 2)) pe_int (nomark _))) (fun _ _ _ _ _ => pv 2))
      (pss_one (ps_ret (pe_cmpR (op_eqD hr.units) (pe_lc (own := [("_law_k", 2)]) (g := gName 2) rfl scLIsRound.nd (pi_list (pv 1))
          (blkOk_by (N := ["_law_loop", "_law_parts", "_law_k"]) (sc := defScope sLIsRound) (by decide +kernel)) (fun _ _ _ _ _ => pg_name (i := 2) scLIsRound.nd rfl (Or.inl rfl))
          (fun _ _ _ _ _ => pts_one (pt_cmpR op_eq (pe_op op_mulS (pe_slice sl_str (pv 0) po_none (po_some (pv 2))) (pe_op op_fdivN (cB call_len_str G.bLen (p1 (pv 0))) (pv 2))) (pv 0) (nomark _))) (fun _ _ _ _ _ => pv 2)) (pe_lst pa_nil) (nomark _)))), ?_⟩
    refine ⟨_, rfl, _, rfl, hline, 1, ((tx v).length : Int), rfl, ⟨by omega, by omega, by rw [t2_len]; omega, by rw [t2_len]; omega⟩, ?_⟩
    rw [t2_len, show ((v.length : Int) - 1).toNat = v.length - 1 by omega]
    intro D1 nD1
    refine lc_go walk_range nD1 (fun i => ((((List.range' 1 (v.length - 1)).take i).filter fun k => v.length % k == 0).map fun k : Nat => (k : Int)).map V.int) (by simp) (fun _ _ => trivial) (fun i hi => ?_) ?_ ?_
    · rw [List.length_map, List.length_map, sizeLine_eq]
      have h1 := List.length_filter_le (fun k => v.length % k == 0) ((List.range' 1 (v.length - 1)).take i)
      rw [List.length_take, List.length_range'] at h1
      omega
    · rintro i x H2 H3 N M hi s2 hD ⟨rfl, hx⟩ hN hM
      have ex : x = V.int ((i + 1 : Nat) : Int) := by
        rw [hx]
        show V.int (1 + (i : Int)) = _
        congr 1
        omega
      subst ex
      have eg : (List.range' 1 (v.length - 1))[i]? = some (i + 1) := by
        rw [List.getElem?_range' (by omega)]
        congr 1
        omega
      have et : (List.range' 1 (v.length - 1)).take (i + 1) = (List.range' 1 (v.length - 1)).take i ++ [i + 1] := by rw [List.take_add_one, eg]; rfl
      refine ⟨rfl, _, rfl, _, rfl, hline, .inl ⟨_, rfl, ?_⟩⟩
      refine ⟨_, rfl, _, _, rfl, rfl, by show (0 : Int) < ((i + 1 : Nat) : Int); omega, rfl, _, rfl, ?_⟩
      rw [t2_len, dec_mod]
      cases hb : (v.length % (i + 1) == 0) with
      | true =>
        refine iteT ⟨_, rfl, hN _ _ (Same.refl _) ?_⟩
        rw [et, List.filter_append, List.filter_cons, hb]
        simp
      | false =>
        refine iteF (hM _ (Same.refl _) ?_)
        rw [et, List.filter_append, List.filter_cons, hb]
        simp
    · intro H2 s2 hD
      rw [List.take_of_length_le (by rw [List.length_range']; omega)] at hD
      have hD : H2 D1 = some (.lst (((partsL v).map fun k : Nat => (k : Int)).map V.int)) := hD
      have hpl : (partsL v).length ≤ 100 := by
        have h1 := List.length_filter_le (fun k => v.length % k == 0) (List.range' 1 (v.length - 1))
        rw [List.length_range'] at h1
        unfold partsL
        omega
      refine ⟨_, rfl, D1, rfl, ⟨_, SqL.of hD⟩, fun D2 nD2 => ?_⟩
      refine lc_go (walk_list (K := K) (a := D1) (xs := ((partsL v).map fun k : Nat => (k : Int)).map V.int)) nD2 (fun i => ((((partsL v).take i).filter fun k => rep (v.take k) (v.length / k) == v).map fun k : Nat => (k : Int)).map V.int) (by simp) (fun H3 s3 => s3.seq (SqL.of hD)) (fun i hi => ?_) ?_ ?_
      · rw [List.length_map, List.length_map, sizeLine_eq]
        have h1 := List.length_filter_le (fun k => rep (v.take k) (v.length / k) == v) ((partsL v).take i)
        rw [List.length_take] at h1
        omega
      · rintro i x H3 H4 N M hi s3 hD3 ⟨rfl, hx⟩ hN hM
        rw [List.getElem?_map, List.getElem?_map] at hx
        cases hu : (partsL v)[i]? with
        | none => rw [hu] at hx; cases hx
        | some k =>
          rw [hu] at hx
          have hxu : V.int (k : Int) = x := Option.some.inj hx
          subst hxu
          obtain ⟨k1, k2⟩ := List.mem_range'_1.mp (List.mem_filter.mp (List.mem_of_getElem? hu)).1
          have et : (partsL v).take (i + 1) = (partsL v).take i ++ [k] := by rw [List.take_add_one, hu]; rfl
          have ediv : ((v.length : Int)).fdiv ((k : Nat) : Int) = ((v.length / k : Nat) : Int) := by
            rw [Int.fdiv_eq_ediv_of_nonneg _ (by omega)]
            omega
          have hle : v.length / k ≤ 1000 := Nat.le_trans (Nat.div_le_self _ _) (by omega)
          refine ⟨rfl, _, rfl, _, rfl, _, rfl, _, rfl, hline, ?_⟩
          rw [cut_take]
          refine ⟨_, rfl, _, rfl, hline, _, rfl, _, _, rfl, rfl, ⟨by omega, by omega⟩, _, v.length / k, rfl, ?_, ?_, hle, ?_⟩
          · rw [t2_len]
            exact congrArg V.int ediv
          · rw [t2_len, List.length_take]
            omega
          rw [mul_t2]
          refine ⟨_, rfl, rfl, _, rfl, ?_⟩
          rw [dec_tx]
          cases hb : (rep (v.take k) (v.length / k) == v) with
          | true =>
            refine iteT ⟨_, rfl, hN _ _ (Same.refl _) ?_⟩
            rw [et, List.filter_append, List.filter_cons, hb]
            simp
          | false =>
            refine iteF (hM _ (Same.refl _) ?_)
            rw [et, List.filter_append, List.filter_cons, hb]
            simp
      · intro H3 s3 hD3
        rw [List.take_of_length_le (by rw [List.length_map, List.length_map]; exact Nat.le_refl _)] at hD3
        have hD3 : H3 D2 = some (.lst (((saidL v).map fun k : Nat => (k : Int)).map V.int)) := hD3
        refine ⟨Nat.zero_le _, fun p np => ?_⟩
        have hD4 : (upd H3 p (.lst [])) D2 = some (.lst (((saidL v).map fun k : Nat => (k : Int)).map V.int)) := by rw [upd_ne (ne_of_none hD3 np)]; exact hD3
        refine ⟨.list (((saidL v).map fun k : Nat => (k : Int)).map PyData.int), .list [], .lst (SqL.of hD4) (dp_ints _), .lst (SqL.of upd_same) .nil, shaped_ints _, shaped_ints [], ?_⟩
        rw [eqv_nil, said_nil]
        exact q _ (s2.trans (s3.trans (same_new np)))

/-! ### keys, turns, the greatest -/
theorem scLKey : FnScope ["_law_letters_here", "_law_found", "_law_odd", "_law_letter"] ["_law_letters_here"] (defScope sLKey) := ⟨rfl, rfl, rfl, by decide +kernel, rfl, by decide +kernel, by decide +kernel⟩
def spLKey : Sp := fun vs H Q _ => ∃ v : Wd, vs = [S v] ∧ v.length ≤ 1000 ∧ ∀ p H', Same H H' → H' p = some (.tup ((kInts v).map V.int)) → Q (.ref p) H'
theorem ok_lKey {f : Addr} {fd : FuncData} (F : Fun K "_law_key" "_law_key" sLKey f fd) (G : Glo mg) : FnOk P w K mg base CX0 1 f fd ["_law_letters_here"] spLKey := by
  refine F.ok scLKey (fun vs H Q E h => ?_) (fun cdv A outer s H vs Q E hr h => ?_)
  · obtain ⟨v, rfl, _⟩ := h
    rfl
  · obtain ⟨v, rfl, hv, q⟩ := h
    refine ⟨_, pss_cons (ps_par (i := 1) (j := 2) rfl scLKey.nd rfl rfl (by decide) rfl rfl (pa_cons (pe_lst pa_nil) (p1 pe_int)) (by rfl))
      (pss_cons (ps_for PassesOwn.never rfl (pi_str (pv 0)) (pg_name (i := 3) scLKey.nd rfl (.inl rfl))
        (pss_cons (ps_set (i := 2) scLKey.nd rfl (.inl rfl) (pe_ifExp (pt_cmpR op_eq (pv 3) pe_str (nomark _)) (pv 2) (pe_op op_sub pe_int (pv 2))))
          (pss_one (ps_expr (pe_bm PySem.F.plainAttrs_list PySem.F.slot_list_append PySem.F.type_list_append mt_append (pv 1) (p1 (pv 2)))))))
        (pss_one (ps_ret (cT call_tuple_of G.bTuple (p1 (pv 1)))))), ?_⟩
    refine ⟨Nat.zero_le _, fun p np => ⟨_, _, rfl, ?_⟩⟩
    refine ⟨_, rfl, _, rfl, for_it walk_str (fun i σ H' => Same H H' ∧ H' p = some (.lst (((hts false (v.take i)).map b01).map V.int)) ∧ ∃ y, σ = [some (S v), some (.ref p), some (.int (b01 (par false (v.take i)))), y]) ⟨same_new np, upd_same, none, rfl⟩ (fun _ _ _ _ _ => trivial) ?_ ?_⟩
    · rintro i x σ H1 H2 hi ⟨sm, hp, y, rfl⟩ ⟨rfl, c, hc, rfl⟩
      obtain ⟨b, hb, ec⟩ := tx_sign hc
      rw [ec]
      have e1 := take_snoc hb
      have e2 : hts false (v.take (i + 1)) = hts false (v.take i) ++ [par false (v.take i) ^^ b] := by rw [e1, hts_snoc]
      have e3 : par false (v.take (i + 1)) = (par false (v.take i) ^^ b) := by rw [e1, par_snoc]
      refine ⟨_, rfl, rfl, _, rfl, ?_⟩
      rw [sg_l]
      have hlen : (((hts false (v.take i)).map b01).map V.int).length < sizeLine := by
        rw [List.length_map, List.length_map, hts_len, List.length_take, sizeLine_eq]
        omega
      have fin : ∀ z : Int, z = b01 (par false (v.take i) ^^ b) → Same H (upd H2 p (.lst (((hts false (v.take i)).map b01).map V.int ++ [.int z]))) ∧
          (upd H2 p (.lst (((hts false (v.take i)).map b01).map V.int ++ [.int z]))) p = some (.lst (((hts false (v.take (i + 1))).map b01).map V.int)) := fun z hz => by
        refine ⟨same_set sm np, ?_⟩
        rw [upd_same, e2, hz]
        simp
      cases b with
      | false =>
        have ez : b01 (par false (v.take i)) = b01 (par false (v.take i) ^^ false) := by rw [Bool.xor_false]
        refine iteT ⟨_, rfl, _, rfl, .inl ⟨rfl, _, SqL.of hp⟩, _, rfl, p, _, _, rfl, rfl, hp, hlen, (fin _ ez).1, (fin _ ez).2, some (.str (sg false)), ?_⟩
        rw [e3, ← ez]
        rfl
      | true =>
        have ez : (1 : Int) - b01 (par false (v.take i)) = b01 (par false (v.take i) ^^ true) := by cases par false (v.take i) <;> rfl
        refine iteF ⟨_, rfl, _, _, rfl, rfl, _, rfl, .inl ⟨rfl, _, SqL.of hp⟩, _, rfl, p, _, _, rfl, rfl, hp, hlen, (fin _ ez).1, (fin _ ez).2, some (.str (sg true)), ?_⟩
        rw [e3, ← ez]
        rfl
    · rintro σ H1 ⟨sm, hp, y, rfl⟩
      rw [tx_size, List.take_length] at hp
      exact ⟨_, rfl, p, _, rfl, .inl ⟨SqL.of hp, fun l nl => q l _ (sm.trans (same_new nl)) upd_same⟩⟩
theorem scLTurns : FnScope ["_law_loop", "_law_k"] ["_law_loop"] (defScope sLTurns) := ⟨rfl, rfl, rfl, by decide +kernel, rfl, by decide +kernel, by decide +kernel⟩
theorem ok_lTurns {f : Addr} {fd : FuncData} (F : Fun K "_law_turns" "_law_turns" sLTurns f fd) (G : Glo mg) : FnOk P w K mg base CX0 1 f fd ["_law_loop"] spTurns := by
  refine F.ok scLTurns (fun vs H Q E h => ?_) (fun cdv A outer s H vs Q E hr h => ?_)
  · obtain ⟨v, rfl, _⟩ := h
    rfl
  · obtain ⟨v, rfl, hv, q⟩ := h
    have hline : (tx v).length ≤ sizeLine := wd_line (by omega)
    refine ⟨_, pss_one (ps_ret (pe_lc (own := [("_law_k", 1)]) (g := gName 1) (tt := tYes) rfl scLTurns.nd (pi_range1 (by rfl) G.bRange (p1 (cB call_len_str G.bLen (p1 (pv 0))))) (blkOk_by (N := ["_law_loop", "_law_k"]) (sc := defScope sLTurns) (by decide +kernel))
          (fun _ _ _ _ _ => pg_name (i := 1) scLTurns.nd rfl (Or.inl rfl)) (fun _ _ _ _ _ => pts_nil)
          (fun _ _ _ _ _ => pe_op op_add_str (pe_slice sl_str (pv 0) (po_some (pv 1)) po_none) (pe_slice sl_str (pv 0) po_none (po_some (pv 1)))))), ?_⟩
    refine ⟨_, rfl, _, rfl, hline, ((tx v).length : Int), rfl, by omega, by rw [t2_len]; omega, ?_⟩
    rw [t2_len, Int.toNat_natCast]
    refine fun D nD => lc_go walk_range nD (fun i => (((List.range v.length).take i).map fun k => V.str (tx (rot k v)))) rfl (fun _ _ => trivial) (fun i hi => ?_) ?_ ?_
    · rw [List.length_map, List.length_take, List.length_range, sizeLine_eq]
      omega
    · rintro i x H1 H2 N M hi sm hD ⟨rfl, hx⟩ hN _
      obtain rfl := int0 i hx
      refine ⟨rfl, ?_⟩
      refine ⟨_, rfl, _, rfl, _, rfl, _, rfl, hline, ?_⟩
      refine ⟨_, rfl, _, rfl, _, rfl, _, rfl, hline, ?_⟩
      rw [cut_drop, cut_take]
      refine ⟨_, _, rfl, rfl, ?_, ?_⟩
      · rw [t2_len, t2_len, List.length_drop, List.length_take, sizeLine_eq]
        omega
      · rw [t2_app]
        refine hN _ _ (Same.refl _) ?_
        rw [List.take_add_one, List.getElem?_range hi, List.map_append]
        rfl
    · intro H2 sm hD
      rw [List.take_of_length_le (by rw [List.length_range]; omega)] at hD
      refine q H2 D sm nD ?_
      rw [hD]
      unfold turns
      rw [List.map_map]
      rfl
theorem keyT_dp {K : PySem.W.Frag} {H : Hp} {p : Addr} {u : Wd} (h : H p = some (.tup ((kInts u).map V.int))) : Dp K H (.ref p) (keyT u) := .tup (SqT.of h) (dp_ints _)
theorem scLGreatest : FnScope ["_law_loop", "_law_best", "_law_each"] ["_law_loop"] (defScope sLGreatest) := ⟨rfl, rfl, rfl, by decide +kernel, rfl, by decide +kernel, by decide +kernel⟩
def spLGreatest : Sp := fun vs H Q _ => ∃ v : Wd, vs = [S v] ∧ v.length ≤ 200 ∧ ∀ H', Same H H' → Q (S (great v)) H'
theorem ok_lGreatest {f : Addr} {fd : FuncData} (F : Fun K "_law_greatest" "_law_greatest" sLGreatest f fd) (kT : Kp P w K mg base 1 "_law_turns" ["_law_loop"] spTurns) (kK : Kp P w K mg base 1 "_law_key" ["_law_letters_here"] spLKey) : FnOk P w K mg base CX0 2 f fd ["_law_loop"] spLGreatest := by
  refine F.ok scLGreatest (fun vs H Q E h => ?_) (fun cdv A outer s H vs Q E hr h => ?_)
  · obtain ⟨v, rfl, _⟩ := h
    rfl
  · obtain ⟨v, rfl, hv, q⟩ := h
    refine ⟨_, pss_cons (ps_set (i := 1) scLGreatest.nd rfl (.inl rfl) (pv 0))
      (pss_cons (ps_for PassesOwn.never rfl (pi_list (pe_K kT hr (p1 (pv 0)))) (pg_name (i := 2) scLGreatest.nd rfl (.inl rfl))
        (pss_one (ps_set (i := 1) scLGreatest.nd rfl (.inl rfl) (pe_ifExp (pt_cmpR (op_gtD hr) (pe_K kK hr (p1 (pv 2))) (pe_K kK hr (p1 (pv 1))) (nomark _)) (pv 2) (pv 1)))))
        (pss_one (ps_ret (pv 1)))), ?_⟩
    refine ⟨_, rfl, _, rfl, v, rfl, by omega, fun H1 p sm np hp => ⟨p, rfl, ⟨_, SqL.of hp⟩, ?_⟩⟩
    refine for_list (K := K) (a := p) (xs := (turns v).map fun u => V.str (tx u)) (fun i σ H' => Same H1 H' ∧ (((turns v).take i).foldl stepG v).length = v.length ∧ ∃ y, σ = [some (S v), some (S (((turns v).take i).foldl stepG v)), y]) ⟨Same.refl _, rfl, none, rfl⟩ (fun i σ H' _ ⟨s, _⟩ => s.seq (SqL.of hp)) ?_ ?_
    · rintro i x σ H2 hx ⟨s2, hl, y, rfl⟩
      rw [List.getElem?_map] at hx
      cases hu : (turns v)[i]? with
      | none => rw [hu] at hx; cases hx
      | some u =>
        rw [hu] at hx
        have hxu : S u = x := Option.some.inj hx
        subst hxu
        have hul : u.length = v.length := by
          obtain ⟨k, _, e⟩ := mem_turns.mp (List.mem_of_getElem? hu)
          rw [← e, rot_len]
        have et : ((turns v).take (i + 1)).foldl stepG v = stepG (((turns v).take i).foldl stepG v) u := by
          rw [List.take_add_one, hu, List.foldl_append]
          rfl
        generalize ((turns v).take i).foldl stepG v = best at hl et
        refine ⟨_, rfl, u, rfl, by omega, fun p3 H3 s3 hp3 => ?_⟩
        refine ⟨_, rfl, best, rfl, by omega, fun p4 H4 s4 hp4 => ?_⟩
        refine ⟨keyT u, keyT best, keyT_dp (s4 _ _ hp3), keyT_dp hp4, keyT_alike _ _, (by unfold keyT; intro z; cases z), by rw [keyT_depth]; decide, _, rfl, ?_⟩
        rw [keyT_lt]
        cases hb : ltH best u with
        | true =>
          rw [show stepG best u = u from if_pos hb] at et
          refine iteT ⟨_, rfl, s2.trans (s3.trans s4), by rw [et]; exact hul, some (S u), ?_⟩
          rw [et]
          rfl
        | false =>
          rw [show stepG best u = best from if_neg (by rw [hb]; exact Bool.false_ne_true)] at et
          refine iteF ⟨_, rfl, s2.trans (s3.trans s4), by rw [et]; exact hl, some (S u), ?_⟩
          rw [et]
          rfl
    · rintro σ H2 ⟨s2, hl, y, rfl⟩
      rw [List.take_of_length_le (by rw [List.length_map]; exact Nat.le_refl _)]
      exact ⟨_, rfl, q H2 (sm.trans s2)⟩

/-! ### all strings of so many letters -/
theorem scLEvery : FnScope ["_law_many", "_law_found", "_law_k", "_law_word"] ["_law_many"] (defScope sLEvery) := ⟨rfl, rfl, rfl, by decide +kernel, rfl, by decide +kernel, by decide +kernel⟩
def spLEvery : Sp := fun vs H Q _ => ∃ n : Nat, vs = [.int (n : Int)] ∧ n ≤ 6 ∧ ∀ H' p, Same H H' → H' p = some (.lst ((wordsL n).map S)) → Q (.ref p) H'
theorem wordsL_count : ∀ n, (wordsL n).length = 2 ^ n
  | 0 => rfl
  | n + 1 => by
    show (((wordsL n).map fun w => w ++ [false]) ++ (wordsL n).map fun w => w ++ [true]).length = _
    rw [List.length_append, List.length_map, List.length_map, wordsL_count n, Nat.pow_succ]
    omega
theorem wordsL_64 {n : Nat} (h : n ≤ 6) : (wordsL n).length ≤ 64 := by
  rw [wordsL_count]
  exact Nat.pow_le_pow_right (by decide) h
theorem ok_lEvery {f : Addr} {fd : FuncData} (F : Fun K "_law_every" "_law_every" sLEvery f fd) (G : Glo mg) : FnOk P w K mg base CX0 1 f fd ["_law_many"] spLEvery := by
  refine F.ok scLEvery (fun vs H Q E h => ?_) (fun cdv A outer s H vs Q E hr h => ?_)
  · obtain ⟨n, rfl, _⟩ := h
    rfl
  · obtain ⟨n, rfl, hn, q⟩ := h
    refine ⟨_, pss_cons (ps_set (i := 1) scLEvery.nd rfl (.inl rfl) (pe_lst (p1 pe_str)))
      (pss_cons (ps_for PassesOwn.never rfl (pi_range1 (by rfl) G.bRange (p1 (pv 0))) (pg_name (i := 2) scLEvery.nd rfl (.inl rfl))
        (pss_one (ps_set (i := 1) scLEvery.nd rfl (.inl rfl) (pe_op op_cat
          (pe_lc (own := [("_law_word", 3)]) (g := gName 3) (tt := tYes) rfl scLEvery.nd (pi_list (pv 1)) (blkOk_by (N := ["_law_many", "_law_found", "_law_k", "_law_word"]) (sc := defScope sLEvery) (by decide +kernel))
            (fun _ _ _ _ _ => pg_name (i := 3) scLEvery.nd rfl (Or.inl rfl)) (fun _ _ _ _ _ => pts_nil) (fun _ _ _ _ _ => pe_op op_add_str (pv 3) pe_str))
          (pe_lc (own := [("_law_word", 3)]) (g := gName 3) (tt := tYes) rfl scLEvery.nd (pi_list (pv 1)) (blkOk_by (N := ["_law_many", "_law_found", "_law_k", "_law_word"]) (sc := defScope sLEvery) (by decide +kernel))
            (fun _ _ _ _ _ => pg_name (i := 3) scLEvery.nd rfl (Or.inl rfl)) (fun _ _ _ _ _ => pts_nil) (fun _ _ _ _ _ => pe_op op_add_str (pv 3) pe_str))))))
        (pss_one (ps_ret (pv 1)))), ?_⟩
    refine ⟨by show 1 ≤ sizeLine; decide, fun p0 np0 => ?_⟩
    refine ⟨_, rfl, (n : Int), rfl, by omega, by omega, ?_⟩
    rw [Int.toNat_natCast]
    refine for_range (fun i σ H' => Same H H' ∧ ∃ p y2, σ = [some (.int (n : Int)), some (.ref p), y2, none] ∧ H' p = some (.lst ((wordsL i).map S))) ⟨same_new np0, p0, none, rfl, by rw [upd_same, e_eq]; rfl⟩ ?_ ?_
    · rintro i σ H1 hi ⟨sm, p, y2, rfl, hp⟩
      have hc := wordsL_64 (n := i) (by omega)
      have hlu : ∀ u ∈ wordsL i, u.length ≤ 100 := fun u hu => by rw [wordsL_len i u hu]; omega
      refine ⟨_, rfl, p, rfl, ⟨_, SqL.of hp⟩, fun D1 n1 => ?_⟩
      refine lc_go (walk_list (K := K) (a := p) (xs := (wordsL i).map S)) n1 (fun j => (((wordsL i).take j).map fun u => u ++ [false]).map S) (by simp) (fun H9 s9 => s9.seq (SqL.of hp)) (fun j hj => ?_) ?_ ?_
      · rw [List.length_map, List.length_map, List.length_take, sizeLine_eq]
        omega
      · rintro j x H5 H6 N M hj s5 hD5 ⟨rfl, hx⟩ hN _
        rw [List.getElem?_map] at hx
        cases hu : (wordsL i)[j]? with
        | none => rw [hu] at hx; cases hx
        | some u =>
          rw [hu] at hx
          have hxu : S u = x := Option.some.inj hx
          subst hxu
          have hul := hlu u (List.mem_of_getElem? hu)
          refine ⟨rfl, ?_⟩
          refine ⟨_, rfl, _, _, rfl, rfl, ?_, ?_⟩
          · rw [l_eq, t2_len, t2_len, sizeLine_eq]
            simp
            omega
          · rw [l_eq, t2_app]
            refine hN _ _ (Same.refl _) ?_
            rw [List.take_add_one, hu]
            simp
      intro H2 s2 hD1
      rw [List.take_of_length_le (by rw [List.length_map]; exact Nat.le_refl _)] at hD1
      refine ⟨_, rfl, p, rfl, ⟨_, SqL.of (s2 _ _ hp)⟩, fun D2 n2 => ?_⟩
      refine lc_go (walk_list (K := K) (a := p) (xs := (wordsL i).map S)) n2 (fun j => (((wordsL i).take j).map fun u => u ++ [true]).map S) (by simp) (fun H9 s9 => s9.seq (SqL.of (s2 _ _ hp))) (fun j hj => ?_) ?_ ?_
      · rw [List.length_map, List.length_map, List.length_take, sizeLine_eq]
        omega
      · rintro j x H5 H6 N M hj s5 hD5 ⟨rfl, hx⟩ hN _
        rw [List.getElem?_map] at hx
        cases hu : (wordsL i)[j]? with
        | none => rw [hu] at hx; cases hx
        | some u =>
          rw [hu] at hx
          have hxu : S u = x := Option.some.inj hx
          subst hxu
          have hul := hlu u (List.mem_of_getElem? hu)
          refine ⟨rfl, ?_⟩
          refine ⟨_, rfl, _, _, rfl, rfl, ?_, ?_⟩
          · rw [r_eq, t2_len, t2_len, sizeLine_eq]
            simp
            omega
          · rw [r_eq, t2_app]
            refine hN _ _ (Same.refl _) ?_
            rw [List.take_add_one, hu]
            simp
      intro H3 s3 hD2
      rw [List.take_of_length_le (by rw [List.length_map]; exact Nat.le_refl _)] at hD2
      refine ⟨D1, D2, _, _, rfl, rfl, s3 _ _ hD1, hD2, ?_, fun p4 np4 => ?_⟩
      · rw [List.length_map, List.length_map, List.length_map, List.length_map, sizeLine_eq]
        omega
      · refine ⟨sm.trans (s2.trans (s3.trans (same_new np4))), p4, _, rfl, ?_⟩
        rw [upd_same]
        show _ = some (HO.lst ((((wordsL i).map fun w => w ++ [false]) ++ (wordsL i).map fun w => w ++ [true]).map S))
        rw [List.map_append]
    · rintro σ H1 ⟨sm, p, y2, rfl, hp⟩
      exact ⟨_, rfl, q H1 p sm hp⟩
end
end FW
set_option Elab.async false
set_option linter.all false
set_option maxRecDepth 100000
set_option maxHeartbeats 4000000
/-! the law's own count of rounds. -/
namespace FW
open PySem PySem.Spec PyProof.Rows L2
open PySem.W (EachIs alike dataLt)
abbrev sLCount : Stmt := top 87
theorem uu {k : Nat} {A : Around} (r : Room k A) : A.units + 1 < cLine := by
  have := r.un
  omega
/-- a table in the heap -/
def kvK (l : List (Nat × Int)) : List (Key × V) := l.map fun x => (Sum.inl (x.1 : Int), V.int x.2)
theorem known_succ (n k : Nat) : known n (k + 1) = kstep n (known n k) (k + 1) := by
  unfold known
  rw [List.range'_1_concat, List.foldl_append, Nat.add_comm 1 k]
  rfl
theorem known_keys (n : Nat) : ∀ k, ∀ x ∈ known n k, 1 ≤ x.1 ∧ x.1 ≤ k
  | 0, x, h => by simp [known] at h
  | k + 1, x, h => by
    have ih := known_keys n k
    rw [known_succ] at h
    unfold kstep at h
    split at h
    · rcases List.mem_append.mp h with h | h
      · have := ih x h
        omega
      · have e : x = _ := List.mem_singleton.mp h
        subst e
        exact ⟨Nat.le_add_left 1 k, Nat.le_refl _⟩
    · have := ih x h
      omega
theorem known_uq (n : Nat) : ∀ k, ∀ x ∈ known n k, ∀ y ∈ known n k, y.1 = x.1 → y = x
  | 0, x, h => by simp [known] at h
  | k + 1, x, h => by
    intro y hy e
    have ih := known_uq n k
    have kk := known_keys n k
    rw [known_succ] at h hy
    unfold kstep at h hy
    split at h
    · rename_i hd
      rw [if_pos hd] at hy
      rcases List.mem_append.mp h with h | h
      · rcases List.mem_append.mp hy with hy | hy
        · exact ih x h y hy e
        · have e2 : y = _ := List.mem_singleton.mp hy
          have := kk x h
          rw [e2] at e
          have e : k + 1 = x.1 := e
          omega
      · have e1 : x = _ := List.mem_singleton.mp h
        rcases List.mem_append.mp hy with hy | hy
        · have := kk y hy
          rw [e1] at e
          have e : y.1 = k + 1 := e
          omega
        · have e2 : y = _ := List.mem_singleton.mp hy
          rw [e1, e2]
    · rename_i hd
      rw [if_neg hd] at hy
      exact ih x h y hy e
theorem known_len (n : Nat) : ∀ k, (known n k).length ≤ k
  | 0 => by simp [known]
  | k + 1 => by
    have ih := known_len n k
    rw [known_succ]
    unfold kstep
    split
    · rw [List.length_append]
      simp
      exact ih
    · omega
theorem val_of {l : List (Nat × Int)} {x : Nat × Int} (u : ∀ y ∈ l, y.1 = x.1 → y = x) (h : x ∈ l) : valV (kvK l) (.inl (x.1 : Int)) = some (.int x.2) := by
  unfold valV
  cases q : (kvK l).find? (fun kv => decide (kv.1 = Sum.inl (x.1 : Int))) with
  | none =>
    have := List.find?_eq_none.mp q _ (List.mem_map.mpr ⟨x, h, rfl⟩)
    simp at this
  | some kv =>
    have m := List.mem_of_find?_eq_some q
    have e := List.find?_some q
    obtain ⟨y, hy, rfl⟩ := List.mem_map.mp m
    have e1 : (Sum.inl (y.1 : Int) : Key) = Sum.inl (x.1 : Int) := of_decide_eq_true e
    have e2 : (y.1 : Int) = (x.1 : Int) := Sum.inl.inj e1
    have e3 := u y hy (by omega)
    subst e3
    rfl
theorem val_new {l : List (Nat × Int)} {m : Nat} (h : ∀ y ∈ l, y.1 ≠ m) : valV (kvK l) (.inl (m : Int)) = none := by
  unfold valV
  have q : (kvK l).find? (fun kv => decide (kv.1 = Sum.inl (m : Int))) = none := List.find?_eq_none.mpr fun kv hkv => by
    obtain ⟨y, hy, rfl⟩ := List.mem_map.mp hkv
    have := h y hy
    simp
    omega
  rw [q]
  rfl
section
variable {P : Program} {w : World} {K : PySem.W.Frag} {mg : Str → Option Value} {base : Heap}
theorem scLCount : FnScope ["_law_many", "_law_known", "_law_size", "_law_part"] ["_law_many"] (defScope sLCount) := ⟨rfl, rfl, rfl, by decide +kernel, rfl, by decide +kernel, by decide +kernel⟩
def spLCount : Sp := fun vs H Q _ => ∃ n : Nat, vs = [.int (n : Int)] ∧ 1 ≤ n ∧ n ≤ 200 ∧ ∀ H', Same H H' → Q (.int (countL n)) H'
theorem ok_lCount {f : Addr} {fd : FuncData} (F : Fun K "_law_count" "_law_count" sLCount f fd) (G : Glo mg) : FnOk P w K mg base CX0 1 f fd ["_law_many"] spLCount := by
  refine F.ok scLCount (fun vs H Q E h => ?_) (fun cdv A outer s H vs Q E hr h => ?_)
  · obtain ⟨n, rfl, _⟩ := h
    rfl
  · obtain ⟨n, rfl, hn1, hn2, q⟩ := h
    refine ⟨_, pss_cons (ps_asg pe_dnewK (pg_name (i := 1) scLCount.nd rfl (.inr rfl)))
      (pss_cons (ps_for PassesOwn.never rfl (pi_range2 (by rfl) G.bRange (pa_cons pe_int (p1 (pe_op op_add (pv 0) pe_int)))) (pg_name (i := 2) scLCount.nd rfl (.inr rfl))
        (pss_one (ps_if (pt_cmpR op_eq (pe_op op_mod (cT call_int1 G.bInt (p1 (pv 0))) (pv 2)) pe_int (nomark _))
          (pss_one (ps_dput (uu hr) (pv 1) (pv 2) (pe_op op_sub (pe_op op_oneShl pe_int (pv 2)) (cB (cr_sum rfl) G.bSum (p1 (pe_lock
            (pe_lc (own := [("_law_part", 3)]) (g := gName 3) rfl scLCount.nd (pi_keys (pv 1)) (blkOk_by (N := ["_law_many", "_law_known", "_law_size", "_law_part"]) (sc := defScope sLCount) (by decide +kernel))
              (fun _ _ _ _ _ => pg_name (i := 3) scLCount.nd rfl (Or.inl rfl)) (fun _ _ _ _ _ => pts_one (pt_cmpR op_eq (pe_op op_mod (cT call_int1 G.bInt (p1 (pv 2))) (pv 3)) pe_int (nomark _)))
              (fun _ _ _ _ _ => pe_dget (uu hr) (pv 1) (pv 3) (fun _ _ => rfl))))))) (by rfl))) pss_nil)))
        (pss_one (ps_ret (pe_op op_fdivN (pe_dget (uu hr) (pv 1) (pv 0) (fun _ _ => rfl)) (pv 0))))), ?_⟩
    refine fun d nd => ?_
    have s0 : Same H (upd H d (.dK [])) := same_new nd
    refine ⟨_, rfl, _, _, rfl, rfl, 1, ((n : Int) + 1), rfl, ⟨by omega, by omega, by omega, by omega⟩, ?_⟩
    rw [show ((n : Int) + 1 - 1).toNat = n by omega]
    refine for_range (fun i σ H' => Same H H' ∧ H' d = some (.dK (kvK (known n i))) ∧ ∃ y, σ = [some (.int (n : Int)), some (.ref d), y, none]) ⟨s0, upd_same, none, rfl⟩ ?_ ?_
    · rintro i σ H1 hi ⟨sm, hd, y, rfl⟩
      have e1 : (1 : Int) + (i : Int) = ((i + 1 : Nat) : Int) := by omega
      rw [e1]
      have hkk := known_keys n i
      have hku := known_uq n i
      have hkl := known_len n i
      refine ⟨_, rfl, .inl ⟨_, rfl, ?_⟩⟩
      refine ⟨_, rfl, _, _, rfl, rfl, by show (0 : Int) < ((i + 1 : Nat) : Int); omega, rfl, _, rfl, ?_⟩
      rw [dec_mod]
      cases hb : (n % (i + 1) == 0) with
      | false =>
        refine iteF ⟨sm, ?_, _, rfl⟩
        rw [known_succ]
        unfold kstep
        rw [if_neg (by simpa using hb)]
        exact hd
      | true =>
        refine iteT ?_
        refine ⟨_, rfl, i + 1, rfl, rfl, by omega, ?_⟩
        refine ⟨d, .dK (kvK (known n i)), hd, True.intro, fun od => ?_⟩
        refine ⟨_, rfl, d, od, rfl, .inl ⟨_, upd_same, fun D nD => ?_⟩⟩
        refine lc_go walk_keys nD (fun j => ((((known n i).take j).filter fun x => (i + 1) % x.1 == 0).map (·.2)).map V.int) rfl (fun H2 s2 => s2 _ _ upd_same) (fun j hj => ?_) ?_ ?_
        · rw [List.length_map, List.length_map, sizeLine_eq]
          have h1 := List.length_filter_le (fun x : Nat × Int => (i + 1) % x.1 == 0) ((known n i).take j)
          rw [List.length_take] at h1
          omega
        · rintro j x H2 H3 N M hj s2 hD ⟨rfl, k, v, hkv, rfl⟩ hN hM
          unfold kvK at hkv
          rw [List.getElem?_map] at hkv
          cases hu2 : (known n i)[j]? with
          | none => rw [hu2] at hkv; cases hkv
          | some u =>
            rw [hu2] at hkv
            have e2 := Option.some.inj hkv
            have e3 : Sum.inl (u.1 : Int) = k := congrArg Prod.fst e2
            have e4 : V.int u.2 = v := congrArg Prod.snd e2
            subst e3 e4
            have hum := List.mem_of_getElem? hu2
            have hk1 := hkk u hum
            have et : (known n i).take (j + 1) = (known n i).take j ++ [u] := by rw [List.take_add_one, hu2]; rfl
            refine ⟨rfl, _, rfl, .inl ⟨_, rfl, ?_⟩⟩
            refine ⟨_, rfl, _, _, rfl, rfl, by show (0 : Int) < ((u.1 : Nat) : Int); omega, rfl, _, rfl, ?_⟩
            rw [dec_mod]
            cases hb2 : ((i + 1) % u.1 == 0) with
            | true =>
              have hv : valV (kvK (known n i)) (.inl (u.1 : Int)) = some (.int u.2) := val_of (fun y hy e => hku u hum y hy e) hum
              refine iteT ⟨_, rfl, _, rfl, d, _, rfl, .inl ⟨_, .inl (u.1 : Int), .inr ⟨od, s2 _ _ upd_same⟩, rfl, hv.symm⟩, hN _ _ (Same.refl _) ?_⟩
              rw [et, List.filter_append, List.filter_cons, hb2]
              simp
            | false =>
              refine iteF (hM _ (Same.refl _) ?_)
              rw [et, List.filter_append, List.filter_cons, hb2]
              simp
        · intro H2 s2 hD
          have hl : (kvK (known n i)).length = (known n i).length := List.length_map ..
          rw [hl, List.take_length] at hD
          have hd2 := s2 _ _ (show (upd H1 d (HO.frz od (HO.dK (kvK (known n i))))) d = _ from upd_same)
          refine ⟨hd2, ?_⟩
          have nDd : D ≠ d := fun z => by
            rw [z, upd_same] at nD
            cases nD
          have hD3 : (upd H2 d (.dK (kvK (known n i)))) D = some (.lst ((((known n i).filter fun x => (i + 1) % x.1 == 0).map (·.2)).map V.int)) := by rw [upd_ne nDd]; exact hD
          have hnew : valV (kvK (known n i)) (.inl ((i + 1 : Nat) : Int)) = none := val_new fun y hy => by have := hkk y hy; omega
          refine ⟨D, _, rfl, SqL.of hD3, _, _, rfl, rfl, _, rfl, _, rfl, d, _, rfl, .inl ⟨_, .inl ((i + 1 : Nat) : Int), upd_same, rfl, ?_, rfl⟩, ?_, ?_, _, rfl⟩
          · rw [hl, sizeLine_eq]
            omega
          · intro b o e
            have nb : b ≠ d := fun z => by
              rw [z, nd] at e
              cases e
            rw [upd_ne nb, upd_ne nb]
            refine s2 _ _ ?_
            rw [upd_ne nb]
            exact sm _ _ e
          · rw [upd_same, putK_new _ hnew, known_succ]
            unfold kstep
            rw [if_pos (by simpa using hb)]
            unfold kvK
            rw [List.map_append]
            rfl
    · rintro σ H1 ⟨sm, hd, y, rfl⟩
      obtain ⟨x, hx⟩ := Option.isSome_iff_exists.mp (okN_s hn1 hn2).has
      have hm := List.mem_of_find?_eq_some hx
      have e1 : x.1 = n := by simpa using List.find?_some hx
      have hv : valV (kvK (known n n)) (.inl (x.1 : Int)) = some (.int x.2) := val_of (fun y hy e => known_uq n n x hm y hy e) hm
      rw [e1] at hv
      refine ⟨_, rfl, _, rfl, d, _, rfl, .inl ⟨_, .inl (n : Int), .inl hd, rfl, hv.symm⟩, _, rfl, _, _, rfl, rfl, ⟨by omega, by omega⟩, ?_⟩
      show Q (V.int (Int.fdiv _ (n : Int))) H1
      rw [Int.fdiv_eq_ediv_of_nonneg _ (by omega)]
      have ec : countL n = x.2 / (n : Int) := by
        unfold countL
        rw [hx]
        rfl
      rw [← ec]
      exact q H1 sm
end
end FW
set_option Elab.async false
set_option linter.all false
set_option maxRecDepth 100000
set_option maxHeartbeats 4000000
/-! the law: all rounds of a length are told. -/
namespace FW
open PySem PySem.Spec PyProof.Rows L2
open PySem.W (EachIs alike dataLt dataLe)
abbrev sLList : Stmt := top 88

/-! ### what may be shown -/
structure Fine (d : PyData) : Prop where
  sh : d.showable = true
  nd : d.hasDict = false
  dp : d.depth ≤ 60
  len : d.shown.length ≤ sizeLine
def strsD (L : List Wd) : List PyData := L.map fun u => .str (tx u)
theorem strs_show : ∀ L, PyData.showableAll (strsD L) = true
  | [] => rfl
  | u :: L => by
    show PyData.showableAll (.str (tx u) :: strsD L) = true
    simp [PyData.showableAll, PyData.showable, strs_show L]
theorem strs_dict : ∀ L, PyData.hasDictAll (strsD L) = false
  | [] => rfl
  | u :: L => by
    show PyData.hasDictAll (.str (tx u) :: strsD L) = false
    simp [PyData.hasDictAll, PyData.hasDict, strs_dict L]
theorem strs_depth : ∀ L, PyData.depthAll (strsD L) = 0
  | [] => rfl
  | u :: L => by
    show PyData.depthAll (.str (tx u) :: strsD L) = 0
    simp [PyData.depthAll, PyData.depth, strs_depth L]
theorem strs_leaf (B : Nat) : ∀ L, PyData.leavesShortAll B (strsD L) = true
  | [] => rfl
  | u :: L => by
    show PyData.leavesShortAll B (.str (tx u) :: strsD L) = true
    simp only [PyData.leavesShortAll, PyData.leavesShort, strs_leaf B L, Bool.and_true, List.all_eq_true, decide_eq_true_eq]
    intro c hc
    rw [t2_list] at hc
    obtain ⟨b, _, rfl⟩ := List.mem_map.mp hc
    cases b <;> decide
theorem strs_weight {n : Nat} : ∀ L : List Wd, (∀ u ∈ L, u.length = n) → PyData.weightAll (strsD L) = L.length * (n + 1)
  | [], _ => by simp [strsD, PyData.weightAll]
  | u :: L, h => by
    have hu : (tx u).cps.size = n := (t2_len _ _ u).trans (h u (by simp))
    show PyData.weightAll (.str (tx u) :: strsD L) = _
    simp only [PyData.weightAll, PyData.weight, hu, strs_weight L (fun v hv => h v (by simp [hv])), List.length_cons, Nat.succ_mul]
    omega
def twoT (L : List Wd) : PyData := .list [.tuple (strsD L), .tuple (strsD L)]
theorem twoT_fine {L : List Wd} {n : Nat} (hn : n ≤ 6) (hl : L.length ≤ 64) (h : ∀ u ∈ L, u.length = n) : Fine (twoT L) := by
  have hw : L.length * (n + 1) ≤ 64 * 7 := Nat.mul_le_mul hl (by omega)
  refine ⟨?_, ?_, ?_, ?_⟩
  · unfold twoT
    simp [PyData.showable, PyData.showableAll, strs_show]
  · unfold twoT
    simp [PyData.hasDict, PyData.hasDictAll, strs_dict]
  · unfold twoT
    simp [PyData.depth, PyData.depthAll, strs_depth]
  · have hb : (twoT L).leavesShort 8 = true := by
      unfold twoT
      simp [PyData.leavesShort, PyData.leavesShortAll, strs_leaf]
    refine PyData.shown_fits (B := 8) (by decide) (by decide) hb ?_
    unfold twoT
    simp only [PyData.weight, PyData.weightAll, strs_weight L h]
    omega

/-! ### the table of the greatest ones -/
def IsGT (H : Hp) (x : V) (u : Wd) : Prop := ∃ p, x = V.ref p ∧ H p = some (.tup [S u, .bl true])
theorem IsGT.kept {H H' : Hp} {x : V} {u : Wd} (k : TupKept H H') (h : IsGT H x u) : IsGT H' x u := by
  obtain ⟨p, e1, e2⟩ := h
  exact ⟨p, e1, k _ _ e2⟩
def eT (u : Wd) : Key × V := (.inr (tx u), .bl true)
theorem gt_pairs {K : PySem.W.Frag} {H : Hp} : ∀ {acc : List V} {us : List Wd}, EachIs (IsGT H) acc us → ∃ ps : List Addr, acc = ps.map V.ref ∧ Paired (fun p kv => SqT K H p [kV kv.1, kv.2]) ps (us.map eT)
  | _, _, .nil => ⟨[], rfl, .nil⟩
  | _, _, .cons ⟨p, e1, e2⟩ t => by
    obtain ⟨ps, e3, h3⟩ := gt_pairs (K := K) t
    subst e1 e3
    exact ⟨p :: ps, rfl, .cons (SqT.of e2) h3⟩
theorem put_ins (l : List Wd) (u : Wd) : putK (l.map eT) (.inr (tx u)) (.bl true) = (ins l u).map eT := by
  have ek : ∀ v : Wd, ((eT v).1 = (Sum.inr (tx u) : Key)) ↔ v = u := fun v => ⟨fun e => tx_inj (Sum.inr.inj e), fun e => by rw [e]; rfl⟩
  unfold putK ins
  by_cases h : u ∈ l
  · have h1 : ((l.map eT).any fun kv => decide (kv.1 = (Sum.inr (tx u) : Key))) = true := by
      rw [List.any_eq_true]
      exact ⟨eT u, List.mem_map.mpr ⟨u, h, rfl⟩, decide_eq_true rfl⟩
    rw [if_pos h1, if_pos (by simpa using h), List.map_map]
    refine List.map_congr_left fun v _ => ?_
    show (if (eT v).1 = _ then ((eT v).1, V.bl true) else eT v) = eT v
    split <;> rfl
  · have h1 : ¬ ((l.map eT).any fun kv => decide (kv.1 = (Sum.inr (tx u) : Key))) = true := by
      rw [List.any_eq_true]
      rintro ⟨kv, hk, hd⟩
      obtain ⟨v, hv, rfl⟩ := List.mem_map.mp hk
      have e := (ek v).mp (of_decide_eq_true hd)
      subst e
      exact h hv
    rw [if_neg h1, if_neg (by simpa using h), List.map_append]
    rfl
theorem merge_ins : ∀ (us acc : List Wd), mergeK (acc.map eT) (us.map eT) = (us.foldl ins acc).map eT
  | [], acc => rfl
  | u :: us, acc => by
    show mergeK (putK (acc.map eT) (.inr (tx u)) (.bl true)) (us.map eT) = _
    rw [put_ins, merge_ins us (ins acc u)]
    rfl
theorem merge_once (us : List Wd) : mergeK [] (us.map eT) = (onceL us).map eT := merge_ins us []
theorem mem_fold_ins : ∀ (us acc : List Wd) {v : Wd}, v ∈ us.foldl ins acc → v ∈ acc ∨ v ∈ us
  | [], acc, v, h => .inl h
  | u :: us, acc, v, h => by
    rcases mem_fold_ins us (ins acc u) h with h | h
    · unfold ins at h
      split at h
      · exact .inl h
      · rcases List.mem_append.mp h with h | h
        · exact .inl h
        · exact .inr (by simp [List.mem_singleton.mp h])
    · exact .inr (by simp [h])
theorem keysL_size {n : Nat} {v : Wd} (h : v ∈ keysL n) : v.length = n := by
  rcases mem_fold_ins (loopsL n) [] h with h | h
  · simp at h
  · unfold loopsL at h
    obtain ⟨u, hu, rfl⟩ := List.mem_map.mp h
    rw [great_len]
    exact wordsL_len n u (List.mem_filter.mp hu).1
theorem sortedR_64 {n : Nat} (h : n ≤ 6) : (sortedR n).length ≤ 64 := by
  rw [sortedR_len]
  exact Nat.le_trans (List.length_filter_le _ _) (wordsP_64 h)
theorem dp_strs {K : PySem.W.Frag} {H : Hp} : ∀ L : List Wd, DpAll K H (L.map S) (strsD L)
  | [] => .nil
  | u :: L => .cons (.str _) (dp_strs L)
theorem dp_two {K : PySem.W.Frag} {H : Hp} {a p q : Addr} {L : List Wd} (ha : H a = some (.lst [.ref p, .ref q])) (hp : H p = some (.tup (L.map S))) (hq : H q = some (.tup (L.map S))) : Dp K H (.ref a) (twoT L) :=
  .lst (SqL.of ha) (.cons (.tup (SqT.of hp) (dp_strs L)) (.cons (.tup (SqT.of hq) (dp_strs L)) .nil))
section
variable {P : Program} {w : World} {K : PySem.W.Frag} {mg : Str → Option Value} {base : Heap}
abbrev nLList : List Str := ["_law_many", "_law_greatest_ones", "_law_loop", "_law_due"]
theorem scLList : FnScope nLList ["_law_many"] (defScope sLList) := ⟨rfl, rfl, rfl, by decide +kernel, rfl, by decide +kernel, by decide +kernel⟩
def spLList : Sp := fun vs H Q _ => ∃ n : Nat, vs = [.int (n : Int)] ∧ 1 ≤ n ∧ n ≤ 6 ∧ ∀ H', Same H H' → Q (.bl true) H'
theorem ok_lList {f : Addr} {fd : FuncData} (F : Fun K "_law_list_right" "_law_list_right" sLList f fd) (G : Glo mg)
    (kE : Kp P w K mg base 1 "_law_every" ["_law_many"] spLEvery) (kR : Kp P w K mg base 1 "_law_is_round" ["_law_loop"] spLIsRound) (kG : Kp P w K mg base 2 "_law_greatest" ["_law_loop"] spLGreatest)
    (kKey : Kp P w K mg base 1 "_law_key" ["_law_letters_here"] spLKey) (kA : Kp P w K mg base 5 "all_rounds" ["number"] spAllRounds) (kC : Kp P w K mg base 3 "count_rounds" ["number"] spRoundsBy)
    (kL : Kp P w K mg base 1 "_law_count" ["_law_many"] spLCount) : FnG P w K mg base 6 f fd ["_law_many"] spLList := by
  obtain ⟨fK, fdK, FK, hmK, hkK, hbK, _⟩ := kKey.ex
  refine okG F scLList (fun vs H Q E h => ?_) (fun cdv A outer s H vs Q hg hr h => ?_)
  · obtain ⟨n, rfl, _⟩ := h
    rfl
  · obtain ⟨n, rfl, hn1, hn6, q⟩ := h
    refine ⟨_, pss_cons (ps_set (i := 1) scLList.nd rfl (.inl rfl) (cT (call_dictP rfl) G.bDict (p1 (pe_lc (own := [("_law_loop", 2)]) (g := gName 2) rfl scLList.nd (pi_list (pe_K kE hr (p1 (pv 0))))
          (blkOk_by (N := nLList) (sc := defScope sLList) (by decide +kernel)) (fun _ _ _ _ _ => pg_name (i := 2) scLList.nd rfl (Or.inl rfl)) (fun _ _ _ _ _ => pts_one (pt_val (pe_K kR hr (p1 (pv 2)))))
          (fun _ _ _ _ _ => pe_tup (pa_cons (pe_K kG hr (p1 (pv 2))) (p1 pe_bl)))))))
      (pss_cons (ps_set (i := 3) scLList.nd rfl (.inl rfl) (cT call_tuple_of G.bTuple (p1 (pe_callBK (cr_sortKey FK (hr.mono (by decide)) hbK S kInts) rfl G.bSorted (by decide +kernel) (p1 (cT (call_list_dK rfl) G.bList (p1 (pv 1)))) (pk_cons (pe_glob (v := .ref fK) rfl hmK rfl) pk_nil)))))
      (pss_cons (ps_if (pt_cmpR op_ne (cB (cr_reprD hr hg) G.bRepr (p1 (pe_lst (pa_cons (pe_K kA hr (p1 (pv 0))) (p1 (pe_Kw kA hr (pv 0))))))) (cB (cr_reprD hr hg) G.bRepr (p1 (pe_lst (pa_cons (pv 3) (p1 (pv 3)))))) (nomark _)) (pss_one ps_never) pss_nil)
      (pss_one (ps_ret (pe_and (pe_cmpR op_eq (pe_K kC hr (p1 (pv 0))) (cB call_len_seq G.bLen (p1 (pv 3))) (nomark _)) (pe_one (pe_cmpR op_eq (pe_K kL hr (p1 (pv 0))) (cB call_len_seq G.bLen (p1 (pv 3))) (nomark _)))))))), ?_⟩
    have hc := wordsL_64 (n := n) hn6
    -- the table
    refine ⟨_, rfl, n, rfl, hn6, fun H1 p s1 hp => ⟨p, rfl, ⟨_, SqL.of hp⟩, fun D nD => ?_⟩⟩
    refine lc_goR (walk_list (K := K) (a := p) (xs := (wordsL n).map S)) nD (fun i H acc => EachIs (IsGT H) acc ((((wordsL n).take i).filter isR).map great)) (fun _ => .nil) (fun H2 s2 => s2.seq (SqL.of hp)) (fun i H2 H3 acc k h => h.mono fun _ _ h => h.kept k) (fun i H2 acc hi h => ?_) ?_ ?_
    · have h1 := h.length
      rw [List.length_map] at h1
      have h2 := List.length_filter_le isR ((wordsL n).take i)
      rw [List.length_take] at h2
      rw [sizeLine_eq]
      omega
    · rintro i x H3 H4 acc N M hi s3 hD3 hR ⟨rfl, hx⟩ hN hM
      rw [List.getElem?_map] at hx
      cases hu : (wordsL n)[i]? with
      | none => rw [hu] at hx; cases hx
      | some u =>
        rw [hu] at hx
        have hxu : S u = x := Option.some.inj hx
        subst hxu
        have hul := wordsL_len n u (List.mem_of_getElem? hu)
        have et : (wordsL n).take (i + 1) = (wordsL n).take i ++ [u] := by rw [List.take_add_one, hu]; rfl
        refine ⟨rfl, _, rfl, u, rfl, by omega, fun H5 s5 => ⟨isR u, rfl, ?_⟩⟩
        cases hb : isR u with
        | true =>
          refine iteT ⟨_, rfl, u, rfl, by omega, fun H6 s6 => ⟨by show 2 ≤ sizeLine; decide, fun T nT => ?_⟩⟩
          have sA := s5.trans (s6.trans (same_new (o := .tup [S (great u), .bl true]) nT))
          refine hN _ _ sA ?_
          rw [et, List.filter_append, List.filter_cons, hb, List.map_append]
          exact PySem.W.each_snoc ⟨T, rfl, upd_same⟩ (hR.mono fun _ _ h => h.kept (.same sA))
        | false =>
          refine iteF (hM _ s5 ?_)
          rw [et, List.filter_append, List.filter_cons, hb]
          simp only [List.filter_nil, Bool.false_eq_true, if_false, List.append_nil]
          exact hR.mono fun _ _ h => h.kept (.same s5)
    · intro H2 acc s2 hD2 hR
      rw [List.take_of_length_le (by rw [List.length_map]; exact Nat.le_refl _)] at hR
      have hR : EachIs (IsGT H2) acc (loopsL n) := hR
      obtain ⟨ps, rfl, hP⟩ := gt_pairs (K := K) hR
      refine ⟨D, ps, (loopsL n).map eT, rfl, SqL.of hD2, hP, fun d nd => ?_⟩
      rw [merge_once]
      have eL : ((onceL (loopsL n)).map eT).map (fun kv => kV kv.1) = (keysL n).map S := by
        rw [List.map_map]
        rfl
      refine ⟨_, rfl, d, _, rfl, upd_same, fun q1 nq1 => ?_⟩
      rw [eL]
      have sD : Same H2 (upd (upd H2 d (.dK ((onceL (loopsL n)).map eT))) q1 (.lst ((keysL n).map S))) := (same_new nd).trans (same_new nq1)
      refine ⟨q1, keysL n, rfl, rfl, SqL.of upd_same, fun b hb e => ?_, fun b hb H5 Q5 s5 q5 => ⟨b, rfl, by rw [keysL_size hb]; omega, fun p6 H6 s6 hp6 => q5 p6 H6 s6 hp6⟩, fun p5 H5 s5 np5 hp5 => ?_⟩
      · have e2 : (kInts b).length = 0 := by rw [e]; rfl
        unfold kInts at e2
        rw [List.length_map, hts_len, keysL_size hb] at e2
        omega
      have eS : (keysL n).mergeSort (dataLe false (kTup kInts)) = sortedR n := lists_one hn1 hn6
      rw [eS] at hp5
      refine ⟨p5, _, rfl, .inl ⟨SqL.of hp5, fun l nl => ?_⟩⟩
      have hl : (upd H5 l (.tup ((sortedR n).map S))) l = some (.tup ((sortedR n).map S)) := upd_same
      have sL : Same H (upd H5 l (.tup ((sortedR n).map S))) := s1.trans (s2.trans (sD.trans (s5.trans (same_new nl))))
      revert hl sL
      generalize upd H5 l (.tup ((sortedR n).map S)) = H6
      intro hl sL
      have fine := twoT_fine hn6 (sortedR_64 hn6) fun u hu => sortedR_mem (n := n) hu
      refine ⟨_, rfl, n, rfl, hn1, hn6, fun H7 p7 s7 hp7 => ⟨_, rfl, n, rfl, hn1, hn6, fun H8 p8 s8 hp8 => ⟨by show 2 ≤ sizeLine; decide, fun a9 na9 => ?_⟩⟩⟩
      have s9 : Same H8 (upd H8 a9 (.lst [.ref p7, .ref p8])) := same_new na9
      refine ⟨a9, twoT (sortedR n), rfl, dp_two upd_same (s9 _ _ (s8 _ _ hp7)) (s9 _ _ hp8), fine.sh, fine.nd, fine.dp, fine.len, ?_⟩
      have hl9 := s9 _ _ (s8 _ _ (s7 _ _ hl))
      refine ⟨_, rfl, _, rfl, by show 2 ≤ sizeLine; decide, fun a10 na10 => ?_⟩
      have s10 := same_new (o := .lst [V.ref l, V.ref l]) na10
      have hl10 := s10 _ _ hl9
      refine ⟨a10, twoT (sortedR n), rfl, dp_two upd_same hl10 hl10, fine.sh, fine.nd, fine.dp, fine.len, ?_⟩
      refine ⟨rfl, _, rfl, ?_⟩
      rw [decide_eq_true (rfl : V.str (twoT (sortedR n)).shown = _)]
      refine iteF ?_
      have eR := rounds_6 hn1 hn6
      have eC := (okN_s hn1 (by omega : n ≤ 200)).eq
      refine ⟨_, rfl, n, rfl, hn1, by omega, fun H11 s11 => ⟨_, rfl, l, _, rfl, .inr (SqT.of (s11 _ _ hl10)), rfl, true, ?_, iteT ?_⟩⟩
      · rw [List.length_map, eR, decide_eq_true rfl]
      refine ⟨_, rfl, n, rfl, hn1, by omega, fun H12 s12 => ⟨_, rfl, l, _, rfl, .inr (SqT.of (s12 _ _ (s11 _ _ hl10))), rfl, ?_⟩⟩
      rw [List.length_map, ← eC, eR, decide_eq_true rfl]
      exact q _ (sL.trans (s7.trans (s8.trans (s9.trans (s10.trans (s11.trans s12))))))
end
end FW
set_option Elab.async false
set_option linter.all false
set_option maxRecDepth 100000
set_option maxHeartbeats 4000000
/-! the law: a loop is judged, its greatest turn told. -/
namespace FW
open PySem PySem.Spec PyProof.Rows L2
open PySem.W (EachIs alike dataLt dataLe)
abbrev sLLoop : Stmt := top 89
def bool3 (b : Bool) : PyData := .list [.bool b, .bool b, .bool b]
theorem bool3_fine (b : Bool) : Fine (bool3 b) := by
  refine ⟨?_, ?_, ?_, ?_⟩
  · cases b <;> rfl
  · cases b <;> rfl
  · cases b <;> decide +kernel
  · refine PyData.shown_fits (B := 8) (by decide) (by decide) ?_ ?_
    · cases b <;> rfl
    · cases b <;> decide +kernel
theorem in_words {u : Wd} {L : List Wd} (h : u ∈ L) : inV (S u) (L.map S) = true := by
  unfold inV
  rw [List.any_eq_true]
  refine ⟨S u, List.mem_map.mpr ⟨u, h, rfl⟩, ?_⟩
  show (eqV (.str (tx u)) (.str (tx u))) = true
  simp [eqV]
theorem flat_words (L : List Wd) : (L.map S).all flatV = true := by
  rw [List.all_eq_true]
  intro x hx
  obtain ⟨u, _, rfl⟩ := List.mem_map.mp hx
  rfl
section
variable {P : Program} {w : World} {K : PySem.W.Frag} {mg : Str → Option Value} {base : Heap}
abbrev nLLoop : List Str := ["_law_loop", "_law_due", "_law_best", "_law_turn"]
theorem scLLoop : FnScope nLLoop ["_law_loop"] (defScope sLLoop) := ⟨rfl, rfl, rfl, by decide +kernel, rfl, by decide +kernel, by decide +kernel⟩
def spLLoop : Sp := fun vs H Q _ => ∃ v : Wd, vs = [S v] ∧ v ≠ [] ∧ v.length ≤ 40 ∧ ∀ H', Same H H' → Q (.bl true) H'
theorem ok_lLoop {f : Addr} {fd : FuncData} (F : Fun K "_law_loop_right" "_law_loop_right" sLLoop f fd) (G : Glo mg)
    (kR : Kp P w K mg base 1 "_law_is_round" ["_law_loop"] spLIsRound) (kG : Kp P w K mg base 2 "_law_greatest" ["_law_loop"] spLGreatest) (kT : Kp P w K mg base 1 "_law_turns" ["_law_loop"] spTurns)
    (kI : Kp P w K mg base 3 "is_round" ["loop"] spIsRound) (kGT : Kp P w K mg base 4 "greatest_turn" ["loop"] spGreatestTurn) : FnG P w K mg base 5 f fd ["_law_loop"] spLLoop := by
  refine okG F scLLoop (fun vs H Q E h => ?_) (fun cdv A outer s H vs Q hg hr h => ?_)
  · obtain ⟨v, rfl, _⟩ := h
    rfl
  · obtain ⟨v, rfl, hv0, hv, q⟩ := h
    have hline : (tx v).length ≤ sizeLine := wd_line (by omega)
    refine ⟨_, pss_cons (ps_set (i := 1) scLLoop.nd rfl (.inl rfl) (pe_K kR hr (p1 (pv 0))))
      (pss_cons (ps_if (pt_cmpR op_ne
          (cB (cr_reprD hr hg) G.bRepr (p1 (pe_lst (pa_cons (pe_K kI hr (p1 (pv 0))) (pa_cons (pe_Kw kI hr (pv 0)) (p1 (pe_K kI hr (p1 (pe_op op_add_str (pe_slice sl_str (pv 0) (po_some pe_int) po_none) (pe_slice sl_str (pv 0) po_none (po_some pe_int)))))))))))
          (cB (cr_reprD hr hg) G.bRepr (p1 (pe_op op_rep (pe_lst (p1 (pv 1))) pe_int))) (nomark _)) (pss_one ps_never) pss_nil)
      (pss_cons (ps_if (pt_not (pt_val (pv 1))) (pss_one (ps_ret pe_bl)) pss_nil)
      (pss_cons (ps_set (i := 2) scLLoop.nd rfl (.inl rfl) (pe_K kG hr (p1 (pv 0))))
      (pss_cons (ps_for PassesOwn.never rfl (pi_list (pe_K kT hr (p1 (pv 0)))) (pg_name (i := 3) scLLoop.nd rfl (.inl rfl))
        (pss_one (ps_if (pt_cmpR op_ne (pe_K kGT hr (p1 (pv 3))) (pv 2) (nomark _)) (pss_one ps_never) pss_nil)))
      (pss_one (ps_ret (pe_and (pe_cmpR op_eq (pe_Kw kGT hr (pv 0)) (pv 2) (nomark _))
        (pe_and (pe_cmpR op_in_seq (pv 2) (pe_K kT hr (p1 (pv 0))) (by rfl)) (pe_one (pe_K kI hr (p1 (pv 2)))))))))))), ?_⟩
    -- judged
    refine ⟨_, rfl, v, rfl, by omega, fun H1 s1 => ?_⟩
    have s1' := s1
    refine ⟨_, rfl, v, rfl, hv0, hv, fun H2 s2 => ⟨_, rfl, v, rfl, hv0, hv, fun H3 s3 => ?_⟩⟩
    refine ⟨_, rfl, _, rfl, _, rfl, hline, ?_⟩
    refine ⟨_, rfl, _, rfl, _, rfl, hline, ?_⟩
    have ec1 : cutS (tx v) (some 1) none = tx (v.drop 1) := cut_drop _ _ v 1
    have ec2 : cutS (tx v) none (some 1) = tx (v.take 1) := cut_take _ _ v 1
    rw [ec1, ec2]
    refine ⟨_, _, rfl, rfl, ?_, ?_⟩
    · rw [t2_len, t2_len, List.length_drop, List.length_take, sizeLine_eq]
      omega
    rw [t2_app]
    have hr1 : (rot 1 v).length = v.length := rot_len 1 v
    have hr0 : rot 1 v ≠ [] := fun e => hv0 (List.eq_nil_of_length_eq_zero (by rw [← hr1, e]; rfl))
    refine ⟨rot 1 v, rfl, hr0, by omega, fun H4 s4 => ?_⟩
    rw [isR_rot1]
    have fine := bool3_fine (isR v)
    refine ⟨by show 3 ≤ sizeLine; decide, fun a5 na5 => ?_⟩
    have s5 := same_new (o := .lst [V.bl (isR v), V.bl (isR v), V.bl (isR v)]) na5
    refine ⟨a5, bool3 (isR v), rfl, .lst (SqL.of upd_same) (.cons (.bl _) (.cons (.bl _) (.cons (.bl _) .nil))), fine.sh, fine.nd, fine.dp, fine.len, ?_⟩
    refine ⟨_, rfl, by show 1 ≤ sizeLine; decide, fun a6 na6 => ?_⟩
    have s6 := same_new (o := .lst [V.bl (isR v)]) na6
    refine ⟨a6, 3, _, rfl, rfl, upd_same, by decide, by decide, by show 1 * 3 ≤ sizeLine; decide, fun a7 na7 => ?_⟩
    have s7 := same_new (o := .lst (List.replicate (3 : Int).toNat [V.bl (isR v)]).flatten) na7
    refine ⟨a7, bool3 (isR v), rfl, .lst (SqL.of upd_same) (.cons (.bl _) (.cons (.bl _) (.cons (.bl _) .nil))), fine.sh, fine.nd, fine.dp, fine.len, ?_⟩
    refine ⟨rfl, _, rfl, ?_⟩
    rw [decide_eq_true (rfl : V.str (bool3 (isR v)).shown = _)]
    refine iteF ?_
    have sA := s1'.trans (s2.trans (s3.trans (s4.trans (s5.trans (s6.trans s7)))))
    refine ⟨_, rfl, isR v, rfl, ?_⟩
    cases hR : isR v with
    | false =>
      rw [hR] at sA
      refine iteT ?_
      exact q _ sA
    | true =>
      rw [hR] at sA
      refine iteF ?_
      refine ⟨_, rfl, v, rfl, by omega, fun H8 s8 => ?_⟩
      have hgm := great_mem hv0
      have hgl := great_len v
      have hg0 : great v ≠ [] := fun e => hv0 (List.eq_nil_of_length_eq_zero (by rw [← hgl, e]; rfl))
      refine ⟨_, rfl, v, rfl, by omega, fun H9 p9 s9 n9 hp9 => ⟨p9, rfl, ⟨_, SqL.of hp9⟩, ?_⟩⟩
      refine for_list (K := K) (a := p9) (xs := (turns v).map S) (fun i σ H' => Same H9 H' ∧ ∃ y, σ = [some (S v), some (.bl true), some (S (great v)), y]) ⟨Same.refl _, none, rfl⟩ (fun i σ H' _ ⟨s, _⟩ => s.seq (SqL.of hp9)) ?_ ?_
      · rintro i x σ H10 hx ⟨s10, y, rfl⟩
        rw [List.getElem?_map] at hx
        cases hu : (turns v)[i]? with
        | none => rw [hu] at hx; cases hx
        | some u =>
          rw [hu] at hx
          have hxu : S u = x := Option.some.inj hx
          subst hxu
          have hum := List.mem_of_getElem? hu
          have hul : u.length = v.length := by
            obtain ⟨k, _, e⟩ := mem_turns.mp hum
            rw [← e, rot_len]
          have hu0 : u ≠ [] := fun e => hv0 (List.eq_nil_of_length_eq_zero (by rw [← hul, e]; rfl))
          refine ⟨_, rfl, u, rfl, hu0, by omega, (isR_turn hum).trans hR, fun H11 s11 => ?_⟩
          rw [great_turn hum]
          refine ⟨_, rfl, rfl, _, rfl, ?_⟩
          rw [decide_eq_true (rfl : V.str (tx (great v)) = _)]
          exact iteF ⟨s10.trans s11, _, rfl⟩
      · rintro σ H10 ⟨s10, y, rfl⟩
        refine ⟨_, rfl, v, rfl, hv0, hv, hR, fun H11 s11 => ⟨_, rfl, rfl, true, ?_, iteT ?_⟩⟩
        · rw [decide_eq_true (rfl : V.str (tx (great v)) = _)]
        refine ⟨_, rfl, _, rfl, v, rfl, by omega, fun H12 p12 s12 n12 hp12 => ?_⟩
        refine ⟨p12, _, rfl, .inl (SqL.of hp12), rfl, flat_words _, true, ?_, iteT ?_⟩
        · show V.bl (inV (S (great v)) ((turns v).map S)) = V.bl true
          rw [in_words hgm]
        refine ⟨_, rfl, great v, rfl, hg0, by omega, fun H13 s13 => ?_⟩
        rw [isR_turn hgm, hR]
        exact q _ (sA.trans (s8.trans (s9.trans (s10.trans (s11.trans (s12.trans s13))))))
end
end FW
set_option Elab.async false
set_option linter.all false
set_option maxRecDepth 100000
set_option maxHeartbeats 4000000
/-! the law, for one number. -/
namespace FW
open PySem PySem.Spec PyProof.Rows L2
open PySem.W (EachIs alike dataLt dataLe)
abbrev sLRight : Stmt := top 90
abbrev sLaw : Stmt := top 91
structure KpG (P : Program) (w : World) (K : PySem.W.Frag) (mg : Str → Option Value) (base : Heap) (k : Nat) (x : Str) (ps : List Str) (sp : Sp) : Prop where
  ex : ∃ f fd, FnG P w K mg base k f fd ps sp ∧ mg x = some (.ref f) ∧ PySem.W.keepIn K (.ref f) = true ∧ Binds K fd ps []
section
variable {X : Cx} {k j : Nat} {x q : Str} {ps : List Str} {sp : Sp} {p pos kpos : Pos} {e : Expr} {es : List Expr} {t : TA} {te : TE}
def tCG (sp : Sp) (t : TA) : TE := fun σ H Q => t σ H fun vs H1 => sp vs H1 Q E0
theorem pe_G (h : KpG X.prog X.w X.K X.mg X.base k x ps sp) (hgu : X.A.guards = some []) (hr : Room j X.A) (ha : PA X (e :: es) t) (hkj : k ≤ j := by decide) (hg : Gl X x := by rfl) (hdb : (x == ("__debug__" : Str)) = false := by decide)
    (he : starEach (e :: es) X.env = (false, eval e X.env) :: starEach es X.env := by rfl) (hpl : (backTo pos (starEach es X.env)).any (·.1) = false := by rfl) :
    PE X (.Call (.Name x p) (e :: es) [] pos) (tCG sp t) := by
  obtain ⟨f, fd, F, hm, hk, hb⟩ := h.ex
  exact pe_callG F hgu (hr.mono hkj) hg hm hk hb ha hdb he hpl
end
def two_ints (i : Int) : PyData := .list [.int i, .int i]
theorem two_ints_fine {i : Int} (h : i.natAbs.log2 < 1920) : Fine (two_ints i) := by
  have hl : (PyData.shown (.int i)).length ≤ 1921 := by
    have h1 := int_text_length_le (a := i) (k := 1920) (by decide) h
    simp only [PyData.shown]
    rw [PySem.ofString_length]
    exact h1
  refine ⟨?_, ?_, ?_, ?_⟩
  · unfold two_ints
    simp only [PyData.showable, PyData.showableAll, decide_eq_true h, Bool.and_self]
  · unfold two_ints
    simp only [PyData.hasDict, PyData.hasDictAll, Bool.or_self]
  · unfold two_ints
    simp [PyData.depth, PyData.depthAll]
  · have hb : (two_ints i).leavesShort 1921 = true := by
      unfold two_ints
      simp only [PyData.leavesShort, PyData.leavesShortAll, decide_eq_true hl, Bool.and_self]
    have h2 := PyData.shown_le 1921 (by decide) (two_ints i) hb
    have hw : (two_ints i).weight ≤ 3842 := by
      unfold two_ints
      simp only [PyData.weight, PyData.weightAll]
      split <;> omega
    have h3 : (1921 + 2) * (two_ints i).weight ≤ (1921 + 2) * 3842 := Nat.mul_le_mul_left _ hw
    rw [sizeLine_eq]
    omega
theorem six_of {i : Nat} {x : V} (h : [V.int 1, .int 2, .int 3, .int 4, .int 4, .int 5, .int 5, .int 5, .int 6][i]? = some x) : ∃ n : Nat, x = .int (n : Int) ∧ 1 ≤ n ∧ n ≤ 6 := by
  have m := List.mem_of_getElem? h
  simp only [List.mem_cons, List.not_mem_nil, or_false] at m
  rcases m with e | e | e | e | e | e | e | e | e
  · exact ⟨1, e, by decide, by decide⟩
  · exact ⟨2, e, by decide, by decide⟩
  · exact ⟨3, e, by decide, by decide⟩
  · exact ⟨4, e, by decide, by decide⟩
  · exact ⟨4, e, by decide, by decide⟩
  · exact ⟨5, e, by decide, by decide⟩
  · exact ⟨5, e, by decide, by decide⟩
  · exact ⟨5, e, by decide, by decide⟩
  · exact ⟨6, e, by decide, by decide⟩
theorem many_of {i : Nat} {x : V} (h : [V.int 12, .int 200, .int 200][i]? = some x) : ∃ n : Int, x = .int n ∧ 1 ≤ n ∧ n ≤ 200 := by
  have m := List.mem_of_getElem? h
  simp only [List.mem_cons, List.not_mem_nil, or_false] at m
  rcases m with e | e | e
  · exact ⟨12, e, by decide, by decide⟩
  · exact ⟨200, e, by decide, by decide⟩
  · exact ⟨200, e, by decide, by decide⟩
section
variable {P : Program} {w : World} {K : PySem.W.Frag} {mg : Str → Option Value} {base : Heap}
abbrev nLRight : List Str := ["_law_box_here", "_law_many", "_law_due", "_law_turn", "_law_loop"]
theorem scLRight : FnScope nLRight ["_law_box_here"] (defScope sLRight) := ⟨rfl, rfl, rfl, by decide +kernel, rfl, by decide +kernel, by decide +kernel⟩
def spLRight : Sp := fun vs H Q _ => ∃ p : Addr, vs = [.ref p] ∧ BoxAt H p ∧ ∀ H', KB p H H' → Q (.bl true) H'
theorem ok_lRight {f C fI fS : Addr} {fd fdI fdS : FuncData} (F : Fun K "_law_right" "_law_right" sLRight f fd) (G : Glo mg)
    (kD : Kp P w K mg base 1 "_law_dice" ["_law_box_here", "_law_sides"] spDice) (kO : Kp P w K mg base 2 "_law_of" ["_law_box_here", "_law_things"] spOf) (kLe : Kp P w K mg base 3 "_law_letters" ["_law_box_here", "_law_many"] spLetters)
    (kL : Kp P w K mg base 1 "_law_count" ["_law_many"] spLCount) (kC : Kp P w K mg base 3 "count_rounds" ["number"] spRoundsBy)
    (gList : KpG P w K mg base 6 "_law_list_right" ["_law_many"] spLList) (gLoop : KpG P w K mg base 5 "_law_loop_right" ["_law_loop"] spLLoop)
    (T : Cons K C) (M : Mk K C fI) (FI : FnOk P w K mg base CX0 4 fI fdI ["self", "number"] (spInit C)) (bI : Binds K fdI ["self", "number"] []) (hC : mg "Console" = some (.ref C))
    (FS : FnOk P w K mg base CX0 5 fS fdS ["self", "line"] (spSay C)) (bS : Binds K fdS ["self", "line"] []) (mS : Meth K C "say" fS) : FnG P w K mg base 7 f fd ["_law_box_here"] spLRight := by
  refine okG F scLRight (fun vs H Q E h => ?_) (fun cdv A outer s H vs Q hg hr h => ?_)
  · obtain ⟨p, rfl, _⟩ := h
    rfl
  · obtain ⟨p, rfl, hb, q⟩ := h
    refine ⟨_, pss_cons (ps_if (pt_not (pt_val (pe_G gList hg hr (p1 (pe_K kO hr (pa_cons (pv 0) (p1 (pe_lst (pa_cons pe_int (pa_cons pe_int (pa_cons pe_int (pa_cons pe_int (pa_cons pe_int (pa_cons pe_int (pa_cons pe_int (pa_cons pe_int (p1 pe_int))))))))))))))))) (pss_one ps_never) pss_nil)
      (pss_cons (ps_set (i := 1) scLRight.nd rfl (.inl rfl) (pe_op op_add pe_int (pe_K kD hr (pa_cons (pv 0) (p1 (pe_K kO hr (pa_cons (pv 0) (p1 (pe_lst (pa_cons pe_int (pa_cons pe_int (p1 pe_int))))))))))))
      (pss_cons (ps_set (i := 2) scLRight.nd rfl (.inl rfl) (pe_K kL hr (p1 (pv 1))))
      (pss_cons (ps_if (pt_cmpR op_ne (cB (cr_reprD hr hg) G.bRepr (p1 (pe_lst (pa_cons (pe_K kC hr (p1 (pv 1))) (p1 (pe_Kw kC hr (pv 1))))))) (cB (cr_reprD hr hg) G.bRepr (p1 (pe_lst (pa_cons (pv 2) (p1 (pv 2)))))) (nomark _)) (pss_one ps_never) pss_nil)
      (pss_cons (ps_if (pt_cmpR op_ne (pe_meth (pe_make (x := "Console") M FI (hr.mono (by decide)) (by rfl) hC bI .nil pass0 (p1 (pe_op op_add pe_int (pe_K kD hr (pa_cons (pv 0) (p1 pe_int)))))) T.cl mS FS (hr.mono (by decide)) bS .nil pass0 (p1 (pe_op op_add_str pe_str (cT call_str_int G.bStr (p1 (pv 1)))))) (cT call_str_int G.bStr (p1 (pv 2))) (nomark _)) (pss_one ps_never) pss_nil)
      (pss_cons (ps_for PassesOwn.never rfl (pi_range1 (by rfl) G.bRange (p1 pe_int)) (pg_name (i := 3) scLRight.nd rfl (.inl rfl)) (pss_cons (ps_set (i := 4) scLRight.nd rfl (.inl rfl) (pe_K kLe hr (pa_cons (pv 0) (p1 (pe_op op_add pe_int (pe_K kD hr (pa_cons (pv 0) (p1 pe_int)))))))) (pss_one (ps_if (PW.pt (pw_or (pt_not (pt_val (pe_G gLoop hg hr (p1 (pv 4))))) (pw_or (pt_not (pt_val (pe_G gLoop hg hr (p1 (pe_op op_add_str (pv 4) (pe_slice sl_str (pv 4) po_none (po_some pe_int))))))) (pw_or1 (pt_not (pt_val (pe_G gLoop hg hr (p1 (pe_op op_mulS (pv 4) pe_int))))))))) (pss_one ps_never) pss_nil))))
      (pss_one (ps_ret pe_bl))))))), ?_⟩
    have hbx := hb
    obtain ⟨g0, sd0, c0, hp0, _⟩ := hbx
    -- the list
    refine ⟨_, rfl, by show 9 ≤ sizeLine; decide, fun l nl => ?_⟩
    have nlp : l ≠ p := fun z => by
      rw [z, hp0] at nl
      cases nl
    refine ⟨p, _, 9, rfl, hb.same (same_new nl), by decide, by decide, .inr ⟨l, _, rfl, nlp, upd_same, rfl, fun i x H1 kb1 hb1 hx => ?_⟩⟩
    have k1 : KB p H H1 := (KB.same (same_new nl)).trans kb1
    obtain ⟨n6, rfl, h61, h66⟩ := six_of hx
    refine ⟨n6, rfl, h61, h66, fun H2 s2 => ⟨true, rfl, iteF ?_⟩⟩
    have hb2 := hb1.same s2
    have k2 := k1.trans (KB.same s2)
    -- many
    have hb2x := hb2
    obtain ⟨g1, sd1, c1, hp1, _⟩ := hb2x
    refine ⟨_, rfl, _, rfl, by show 3 ≤ sizeLine; decide, fun l2 nl2 => ?_⟩
    have nlp2 : l2 ≠ p := fun z => by
      rw [z, hp1] at nl2
      cases nl2
    refine ⟨p, _, 3, rfl, hb2.same (same_new nl2), by decide, by decide, .inr ⟨l2, _, rfl, nlp2, upd_same, rfl, fun i x H3 kb3 hb3 hx => ?_⟩⟩
    have k3 := k2.trans ((KB.same (same_new nl2)).trans kb3)
    obtain ⟨sides, rfl, hsd1, hsd2⟩ := many_of hx
    refine ⟨p, sides, rfl, hb3, hsd1, by omega, fun H4 face kb4 hb4 hf0 hf1 => ?_⟩
    have k4 := k3.trans kb4
    refine ⟨_, _, rfl, rfl, ?_⟩
    obtain ⟨n, en⟩ : ∃ n : Nat, 1 + face = (n : Int) := ⟨(1 + face).toNat, by omega⟩
    show gName 1 (V.int (1 + face)) _ _ _
    rw [en]
    have hn1 : 1 ≤ n := by omega
    have hn2 : n ≤ 200 := by omega
    have o := okN_s hn1 hn2
    have fg := figOk_s hn1 hn2
    have hlog : (countL n).natAbs.log2 < 1920 := by rw [← o.eq]; exact log_small o.low o.high
    have fine := two_ints_fine hlog
    -- due
    refine ⟨_, rfl, n, rfl, hn1, hn2, fun H5 s5 => ?_⟩
    refine ⟨_, rfl, n, rfl, hn1, hn2, fun H6 s6 => ⟨_, rfl, n, rfl, hn1, hn2, fun H7 s7 => ?_⟩⟩
    rw [o.eq]
    refine ⟨by show 2 ≤ sizeLine; decide, fun a8 na8 => ?_⟩
    have s8 := same_new (o := .lst [V.int (countL n), V.int (countL n)]) na8
    refine ⟨a8, two_ints (countL n), rfl, .lst (SqL.of upd_same) (.cons (.int _) (.cons (.int _) .nil)), fine.sh, fine.nd, fine.dp, fine.len, ?_⟩
    refine ⟨_, rfl, _, rfl, by show 2 ≤ sizeLine; decide, fun a9 na9 => ?_⟩
    have s9 := same_new (o := .lst [V.int (countL n), V.int (countL n)]) na9
    refine ⟨a9, two_ints (countL n), rfl, .lst (SqL.of upd_same) (.cons (.int _) (.cons (.int _) .nil)), fine.sh, fine.nd, fine.dp, fine.len, ?_⟩
    refine ⟨rfl, _, rfl, ?_⟩
    rw [decide_eq_true (rfl : V.str (two_ints (countL n)).shown = _)]
    refine iteF ?_
    have sB := s5.trans (s6.trans (s7.trans (s8.trans s9)))
    have hb9 := hb4.same sB
    have k9 := k4.trans (KB.same sB)
    revert hb9 k9
    generalize upd (upd H7 a8 (.lst [V.int (countL n), V.int (countL n)])) a9 (.lst [V.int (countL n), V.int (countL n)]) = H9
    intro hb9 k9
    -- the console
    refine ⟨_, rfl, p, 12, rfl, hb9, by decide, by decide, fun H10 face2 kb10 hb10 hf20 hf21 => ?_⟩
    refine ⟨_, _, rfl, rfl, ?_⟩
    intro x dx nx ndx hdx
    have hb10x := hb10
    obtain ⟨g2, sd2, c2, hp2, _⟩ := hb10x
    refine ⟨x, dx, 1 + face2, rfl, by omega, by omega, upd_same, rfl, ?_⟩
    have s11 : Same H10 (upd (upd (upd H10 dx (.own x)) x (.ins C dx [])) x (.ins C dx (fsN (1 + face2)))) := same_set (same_set (same_new ndx) nx) nx
    have hb11 := hb10.same s11
    have k11 := (k9.trans kb10).trans (KB.same s11)
    have hx11 : (upd (upd (upd H10 dx (.own x)) x (.ins C dx [])) x (.ins C dx (fsN (1 + face2)))) x = some (.ins C dx (fsN (1 + face2))) := upd_same
    revert hb11 k11 hx11
    generalize (upd (upd (upd H10 dx (.own x)) x (.ins C dx [])) x (.ins C dx (fsN (1 + face2)))) = H11
    intro hb11 k11 hx11
    refine ⟨x, dx, _, rfl, hx11, fsN_no (m := "say") (by decide +kernel), ?_⟩
    refine ⟨_, rfl, _, rfl, ?_, _, _, rfl, rfl, ?_, ?_⟩
    · exact log_small (by omega) (Int.lt_of_le_of_lt (by omega : (n : Int) ≤ 200) (by decide))
    · have h1 : ("rounds " : Str).length = 7 := by decide +kernel
      have h2 := fg.len
      show ("rounds " : Str).length + (D (n : Int)).length ≤ sizeLine
      rw [h1, sizeLine_eq]
      omega
    refine ⟨x, dx, 1 + face2, n, rfl, hx11, hn1, hn2, fun H12 s12 => ?_⟩
    refine ⟨_, rfl, _, rfl, hlog, rfl, _, rfl, ?_⟩
    rw [o.eq, decide_eq_true (rfl : V.str (D (countL n)) = _)]
    refine iteF ?_
    have hb12 := hb11.same s12
    have k12 := k11.trans (KB.same s12)
    -- the loops
    refine ⟨4, rfl, by decide, by decide, ?_⟩
    refine for_range (fun i σ H' => KB p H H' ∧ BoxAt H' p ∧ ∃ y z, σ = [some (.ref p), some (.int (n : Int)), some (.int (countL n)), y, z]) ⟨k12, hb12, none, none, rfl⟩ ?_ ?_
    · rintro i σ H13 hi ⟨k13, hb13, y, z, rfl⟩
      refine ⟨_, rfl, _, rfl, p, 9, rfl, hb13, by decide, by decide, fun H14 face3 kb14 hb14 hf30 hf31 => ?_⟩
      refine ⟨_, _, rfl, rfl, ?_⟩
      obtain ⟨m, em⟩ : ∃ m : Nat, 1 + face3 = (m : Int) := ⟨(1 + face3).toNat, by omega⟩
      refine ⟨p, m, congrArg (fun z => [V.ref p, V.int z]) em, hb14, by omega, fun v H15 hvl kb15 hb15 => ?_⟩
      have k15 := (k13.trans kb14).trans kb15
      have hv0 : v ≠ [] := fun e => by
        rw [e] at hvl
        have : m = 0 := hvl.symm
        omega
      refine ⟨_, rfl, v, rfl, hv0, by omega, fun H16 s16 => ⟨true, rfl, iteF ?_⟩⟩
      have hline : (tx v).length ≤ sizeLine := wd_line (by omega)
      refine ⟨_, rfl, _, rfl, _, rfl, _, rfl, hline, ?_⟩
      have ec2 : cutS (tx v) none (some 1) = tx (v.take 1) := cut_take _ _ v 1
      rw [ec2]
      refine ⟨_, _, rfl, rfl, ?_, ?_⟩
      · rw [t2_len, t2_len, List.length_take, sizeLine_eq]
        omega
      rw [t2_app]
      refine ⟨v ++ v.take 1, rfl, fun e => hv0 (List.append_eq_nil_iff.mp e).1, by rw [List.length_append, List.length_take]; omega, fun H17 s17 => ⟨true, rfl, iteF ?_⟩⟩
      refine ⟨_, rfl, tx v, 2, rfl, rfl, by rw [t2_len]; omega, by decide, ?_⟩
      rw [mul_t2]
      refine ⟨rep v 2, rfl, fun e => ?_, by rw [rep_len]; omega, fun H18 s18 => ⟨true, rfl, iteF ?_⟩⟩
      · have e2 : (rep v 2).length = 0 := by rw [e]; rfl
        rw [rep_len] at e2
        omega
      have sC := s16.trans (s17.trans s18)
      exact ⟨k15.trans (KB.same sC), hb15.same sC, _, _, rfl⟩
    · rintro σ H13 ⟨k13, _, y, z, rfl⟩
      exact q _ k13
end
end FW
set_option Elab.async false
set_option linter.all false
set_option maxRecDepth 100000
set_option maxHeartbeats 4000000
/-! the law. -/
namespace FW
open PySem PySem.Spec PyProof.Rows L2
section
variable {P : Program} {w : World} {K : PySem.W.Frag} {mg : Str → Option Value} {base : Heap}
abbrev nLaw : List Str := ["_law_script", "_law_k"]
theorem scLaw : FnScope nLaw ["_law_script"] (defScope sLaw) := ⟨rfl, rfl, rfl, by decide +kernel, rfl, by decide +kernel, by decide +kernel⟩
def spLaw (K : PySem.W.Frag) : Sp := fun vs H Q _ => ∃ (a : Addr) (ns : List Int), vs = [.ref a] ∧ SqL K H a (ns.map V.int) ∧ ns.length ≤ 63 ∧ ∀ H', Q (.bl true) H'
theorem ok_law {f : Addr} {fd : FuncData} (F : Fun K "law" "law" sLaw f fd) (G : Glo mg) (kB : Kp P w K mg base 1 "_law_box" ["_law_script", "_law_k"] (spBox K))
    (gR : KpG P w K mg base 7 "_law_right" ["_law_box_here"] spLRight) : FnG P w K mg base 8 f fd ["_law_script"] (spLaw K) := by
  refine okG F scLaw (fun vs H Q E h => ?_) (fun cdv A outer s H vs Q hg hr h => ?_)
  · obtain ⟨a, ns, rfl, _⟩ := h
    rfl
  · obtain ⟨a, ns, rfl, ha, hns, q⟩ := h
    refine ⟨_, pss_one (ps_ret (cB (cr_all rfl) G.bAll (p1 (pe_lc (own := [("_law_k", 1)]) (g := gName 1) (tt := tYes) rfl scLaw.nd (pi_range1 (by rfl) G.bRange (p1 (cB (call_max2 rfl) G.bMax (pa_cons pe_int (p1 (cB (call_min2 rfl) G.bMin (pa_cons (cB call_len_seq G.bLen (p1 (pv 0))) (p1 pe_int))))))))
        (blkOk_by (N := nLaw) (sc := defScope sLaw) (by decide +kernel)) (fun _ _ _ _ _ => pg_name (i := 1) scLaw.nd rfl (Or.inl rfl)) (fun _ _ _ _ _ => pts_nil)
        (fun _ _ _ _ _ => pe_G gR hg hr (p1 (pe_K kB hr (pa_cons (pv 0) (p1 (pv 1)))))))))), ?_⟩
    refine ⟨_, rfl, a, _, rfl, .inl ha, (ns.length : Int), 4, ?_, ?_⟩
    · rw [List.length_map]
    refine ⟨2, _, rfl, ?_⟩
    obtain ⟨m, em, hm⟩ : ∃ m : Nat, (if (2 : Int) < (if (4 : Int) < (ns.length : Int) then 4 else (ns.length : Int)) then (if (4 : Int) < (ns.length : Int) then 4 else (ns.length : Int)) else 2) = (m : Int) ∧ m ≤ 4 := by
      refine ⟨((if (2 : Int) < (if (4 : Int) < (ns.length : Int) then 4 else (ns.length : Int)) then (if (4 : Int) < (ns.length : Int) then 4 else (ns.length : Int)) else 2)).toNat, ?_, ?_⟩ <;> (split <;> split <;> omega)
    refine ⟨(m : Int), congrArg (fun z => [V.int z]) em, by omega, by omega, ?_⟩
    rw [Int.toNat_natCast]
    refine fun D nD => lc_go walk_range nD (fun i => (List.replicate i true).map V.bl) rfl (fun _ _ => trivial) (fun i hi => ?_) ?_ ?_
    · rw [List.length_map, List.length_replicate, sizeLine_eq]
      omega
    · rintro i x H1 H2 N M hi s1 hD ⟨rfl, hx⟩ hN _
      obtain rfl := int0 i hx
      refine ⟨rfl, ?_⟩
      refine ⟨_, rfl, _, rfl, a, ns, i, rfl, s1.seq ha, hns, by omega, fun H3 p s3 np hb => ?_⟩
      refine ⟨p, rfl, hb, fun H4 k4 => hN _ _ (KB.out s3 np k4) ?_⟩
      rw [List.replicate_succ', List.map_append]
      rfl
    · intro H2 s2 hD
      refine ⟨D, _, rfl, SqL.of hD, ?_⟩
      have e : (List.replicate m true).all id = true := by
        rw [List.all_eq_true]
        intro x hx
        rw [List.eq_of_mem_replicate hx]
        rfl
      rw [e]
      exact q _
end
end FW
set_option Elab.async false
set_option linter.all false
set_option maxRecDepth 100000
set_option maxHeartbeats 4000000
/-! The facts of the written part, the chain of promises, the head. -/
namespace FW
open PySem PySem.Spec PyProof.Rows L2
def TopDef (K : PySem.W.Frag) (x : Str) (st : Stmt) : Prop := ∃ f fd, PySem.W.nsIn K mainGlobals x = some (some (.ref f)) ∧ Fun K x x st f fd
theorem td_mk {K : PySem.W.Frag} {x : Str} {st : Stmt} {f : Addr} {oc : Value} {od an : Option Addr} {osl : Array (Option Value)} {kV doc pm cdv ct : Value} (a : PySem.W.nsIn K mainGlobals x = some (some (.ref f)))
    (l : K.lookup f = some ⟨oc, od, .func (PySem.W.fnOf x x (defArgs st) (defBody st) (defScope st) .none kV doc pm an cdv ct), osl⟩) (c : PySem.W.codeIn K cdv x = true) (k : PySem.W.keepIn K (.ref f) = true) : TopDef K x st := ⟨f, _, a, fun_mk l c k⟩
def MethDef (K : PySem.W.Frag) (C : Addr) (m q : Str) (st : Stmt) : Prop := ∃ f fd, PySem.W.findIn K (.ref C) m = some (some (.ref f)) ∧ PySem.W.isFn K (.ref f) = true ∧ Fun K m q st f fd
theorem md_mk {K : PySem.W.Frag} {C : Addr} {m q : Str} {st : Stmt} {f : Addr} {oc : Value} {od an : Option Addr} {osl : Array (Option Value)} {kV doc pm cdv ct : Value} (a : PySem.W.findIn K (.ref C) m = some (some (.ref f))) (i : PySem.W.isFn K (.ref f) = true)
    (l : K.lookup f = some ⟨oc, od, .func (PySem.W.fnOf m q (defArgs st) (defBody st) (defScope st) .none kV doc pm an cdv ct), osl⟩) (c : PySem.W.codeIn K cdv q = true) (k : PySem.W.keepIn K (.ref f) = true) : MethDef K C m q st := ⟨f, _, a, i, fun_mk l c k⟩
def IntC (K : PySem.W.Frag) (x : Str) (i : Int) : Prop := ∃ t, PySem.W.nsIn K mainGlobals x = some (some (.int i t))
theorem ic_mk {K : PySem.W.Frag} {x : Str} {i j : Int} {t : Nat} (a : PySem.W.nsIn K mainGlobals x = some (some (.int j t))) (h : j = i) : IntC K x i := ⟨t, h ▸ a⟩
def StrC (K : PySem.W.Frag) (x : Str) (z : Str) : Prop := ∃ t, PySem.W.nsIn K mainGlobals x = some (some (.str z t))
theorem sc_mk {K : PySem.W.Frag} {x : Str} {z y : Str} {t : Nat} (a : PySem.W.nsIn K mainGlobals x = some (some (.str y t))) (h : y = z) : StrC K x z := ⟨t, h ▸ a⟩
section
variable {P : Program} {w : World} {K : PySem.W.Frag} {mg : Str → Option Value} {base h : Heap}
theorem fun_bind1 {x qual q : Str} {st : Stmt} {f : Addr} {fd : FuncData} (F : Fun K x qual st f fd) (hb : ∀ (kV doc pm : Value) (an : Option Addr) (cdv ct v : Value), bindArgs (PySem.W.fnOf x qual (defArgs st) (defBody st) (defScope st) .none kV doc pm an cdv ct) ⟨[v], []⟩ = pure [(q, v)]) :
    ∀ (s : Shared) (v : Value), BindsTo s fd ⟨[v], []⟩ [(q, v)] := by
  obtain ⟨oc, od, kV, doc, pm, an, cdv, ct, osl, rfl, lk, hcd⟩ := F.ex
  exact fun s v => .of_eq (hb kV doc pm an cdv ct v)
theorem kp_mk {x : Str} {st : Stmt} {f : Addr} {fd : FuncData} {ps : List Str} {k : Nat} {sp : Sp} (X : K.In h) (G : h.Ns mainGlobals mg) (a : PySem.W.nsIn K mainGlobals x = some (some (.ref f))) (F : Fun K x x st f fd) (ok : FnOk P w K mg base CX0 k f fd ps sp)
    (hb : ∀ (kV doc pm : Value) (an : Option Addr) (cdv ct : Value) (us : List Value), us.length = ps.length → bindArgs (PySem.W.fnOf x x (defArgs st) (defBody st) (defScope st) .none kV doc pm an cdv ct) ⟨us, []⟩ = pure (ps.zip us))
    (hk : ∀ q, ps = [q] → ∀ (kV doc pm : Value) (an : Option Addr) (cdv ct v : Value), bindArgs (PySem.W.fnOf x x (defArgs st) (defBody st) (defScope st) .none kV doc pm an cdv ct) ⟨[], [(q, v)]⟩ = pure [(q, v)]) : Kp P w K mg base k x ps sp := by
  refine ⟨f, fd, ok, PySem.W.mg_of X G a, F.kp, F.binds hb, fun q e => ?_⟩
  obtain ⟨oc, od, kV, doc, pm, an, cdv, ct, osl, rfl, lk, hcd⟩ := F.ex
  exact fun s v => .of_eq (hk q e kV doc pm an cdv ct v)
theorem kg_mk {x : Str} {st : Stmt} {f : Addr} {fd : FuncData} {ps : List Str} {k : Nat} {sp : Sp} (X : K.In h) (G : h.Ns mainGlobals mg) (a : PySem.W.nsIn K mainGlobals x = some (some (.ref f))) (F : Fun K x x st f fd) (ok : FnG P w K mg base k f fd ps sp)
    (hb : ∀ (kV doc pm : Value) (an : Option Addr) (cdv ct : Value) (us : List Value), us.length = ps.length → bindArgs (PySem.W.fnOf x x (defArgs st) (defBody st) (defScope st) .none kV doc pm an cdv ct) ⟨us, []⟩ = pure (ps.zip us)) : KpG P w K mg base k x ps sp :=
  ⟨f, fd, ok, PySem.W.mg_of X G a, F.kp, F.binds hb⟩
theorem mg_int {x : Str} {i : Int} (X : K.In h) (G : h.Ns mainGlobals mg) (c : IntC K x i) : ∃ t, mg x = some (.int i t) := by
  obtain ⟨t, a⟩ := c
  exact ⟨t, PySem.W.mg_of X G a⟩
theorem mg_str {x z : Str} (X : K.In h) (G : h.Ns mainGlobals mg) (c : StrC K x z) : ∃ t, mg x = some (.str z t) := by
  obtain ⟨t, a⟩ := c
  exact ⟨t, PySem.W.mg_of X G a⟩
end
theorem all_mk {l : PySem.W.OpenLaw} {w : World} {K : PySem.W.Frag} {h : Heap} {mg : Str → Option Value} {fa C : Addr} (X : K.In h) (G : h.Ns mainGlobals mg) (hfa : mg "law" = some (.ref fa))
    (t_is_integer : TopDef K "is_integer" sInteger)
    (t_is_between : TopDef K "is_between" sBetween)
    (t_are_signs : TopDef K "are_signs" sSigns)
    (t_is_row : TopDef K "is_row" sIsRow)
    (t_check_number : TopDef K "check_number" sCheckNumber)
    (t_power : TopDef K "power" sPower)
    (t_are_letters : TopDef K "are_letters" sLettersOk)
    (t_check_loop : TopDef K "check_loop" sCheckLoop)
    (t_heights_of : TopDef K "heights_of" sHeights)
    (t_shortest_loop : TopDef K "shortest_loop" sShortest)
    (t_is_whole_round : TopDef K "is_whole_round" sWhole)
    (t_turns_of : TopDef K "turns_of" sTurns)
    (t_height_key : TopDef K "height_key" sHKey)
    (t_greatest_by : TopDef K "greatest_by" sGreatest)
    (t_divisors_sign : TopDef K "divisors_sign" sDivs)
    (t_rounds_by : TopDef K "rounds_by" sRoundsBy)
    (t_rounds_listed : TopDef K "rounds_listed" sListed)
    (t_check_round : TopDef K "check_round" sCheckRound)
    (t_is_round : TopDef K "is_round" sIsRound)
    (t_greatest_turn : TopDef K "greatest_turn" sGreatestTurn)
    (t_count_rounds : TopDef K "count_rounds" sCount)
    (t_all_rounds : TopDef K "all_rounds" sAllRounds)
    (t_number_in : TopDef K "number_in" sNumberIn)
    (t_law_box : TopDef K "_law_box" sBox)
    (t_law_dice : TopDef K "_law_dice" sDice)
    (t_law_of : TopDef K "_law_of" sOf)
    (t_law_letters : TopDef K "_law_letters" sLetters)
    (t_law_is_round : TopDef K "_law_is_round" sLIsRound)
    (t_law_key : TopDef K "_law_key" sLKey)
    (t_law_turns : TopDef K "_law_turns" sLTurns)
    (t_law_greatest : TopDef K "_law_greatest" sLGreatest)
    (t_law_every : TopDef K "_law_every" sLEvery)
    (t_law_count : TopDef K "_law_count" sLCount)
    (t_law_list_right : TopDef K "_law_list_right" sLList)
    (t_law_loop_right : TopDef K "_law_loop_right" sLLoop)
    (t_law_right : TopDef K "_law_right" sLRight)
    (t_law : TopDef K "law" sLaw)
    (aC : PySem.W.nsIn K mainGlobals "Console" = some (some (.ref C)))
    (m_init : MethDef K C "__init__" "Console.__init__" sInit)
    (m_say : MethDef K C "say" "Console.say" sSay)
    (m_is_own : MethDef K C "is_own" "Console.is_own" sOwn)
    (m_answer : MethDef K C "answer" "Console.answer" sAnswer)
    (m_other_answer : MethDef K C "other_answer" "Console.other_answer" sOther)
    (pg : PySem.W.plainGet K C Str.empty = true) (hd : PySem.W.hasDictIn K C = true) (po : PySem.W.plainOver K C = true) (sa : PySem.W.findIn K (.ref C) "__setattr__" = some (some (.builtin "object.__setattr__"))) (mk : PySem.W.makesIn K C = true) (kc : PySem.W.keepIn K (.ref C) = true)
    (nN : PySem.W.findIn K (.ref C) "number" = some none)
    (z_isinstance : PySem.W.nsIn K mainGlobals "isinstance" = some none)
    (z_int : PySem.W.nsIn K mainGlobals "int" = some none)
    (z_bool : PySem.W.nsIn K mainGlobals "bool" = some none)
    (z_str : PySem.W.nsIn K mainGlobals "str" = some none)
    (z_len : PySem.W.nsIn K mainGlobals "len" = some none)
    (z_all : PySem.W.nsIn K mainGlobals "all" = some none)
    (z_range : PySem.W.nsIn K mainGlobals "range" = some none)
    (z_max : PySem.W.nsIn K mainGlobals "max" = some none)
    (z_min : PySem.W.nsIn K mainGlobals "min" = some none)
    (z_sum : PySem.W.nsIn K mainGlobals "sum" = some none)
    (z_sorted : PySem.W.nsIn K mainGlobals "sorted" = some none)
    (z_tuple : PySem.W.nsIn K mainGlobals "tuple" = some none)
    (z_divmod : PySem.W.nsIn K mainGlobals "divmod" = some none)
    (z_abs : PySem.W.nsIn K mainGlobals "abs" = some none)
    (z_dict : PySem.W.nsIn K mainGlobals "dict" = some none)
    (z_list : PySem.W.nsIn K mainGlobals "list" = some none)
    (z_repr : PySem.W.nsIn K mainGlobals "repr" = some none)
    (c_MOST_ARCHES : IntC K "MOST_ARCHES" 12)
    (c_MOST_LETTERS : IntC K "MOST_LETTERS" 40)
    (c_MOST_ROUND : IntC K "MOST_ROUND" 200)
    (c_MOST_ROUNDS : IntC K "MOST_ROUNDS" 10)
    (c_FIGURES : StrC K "FIGURES" "0123456789") :
    ∃ fd : FuncData, (∀ (s : Shared) (v : Value), BindsTo s fd ⟨[v], []⟩ [("_law_script", v)]) ∧ ∀ base : Heap, K.In base → base.Ns mainGlobals mg → FnG l.prog w K mg base 8 fa fd ["_law_script"] (spLaw K) := by
  have gl : Glo mg := ⟨PySem.W.mg_none_of X G z_isinstance, PySem.W.mg_none_of X G z_int, PySem.W.mg_none_of X G z_bool, PySem.W.mg_none_of X G z_str, PySem.W.mg_none_of X G z_len, PySem.W.mg_none_of X G z_all, PySem.W.mg_none_of X G z_range, PySem.W.mg_none_of X G z_max, PySem.W.mg_none_of X G z_min, PySem.W.mg_none_of X G z_sum, PySem.W.mg_none_of X G z_sorted, PySem.W.mg_none_of X G z_tuple, PySem.W.mg_none_of X G z_divmod, PySem.W.mg_none_of X G z_abs, PySem.W.mg_none_of X G z_dict, PySem.W.mg_none_of X G z_list, PySem.W.mg_none_of X G z_repr, mg_int X G c_MOST_ARCHES, mg_int X G c_MOST_LETTERS, mg_int X G c_MOST_ROUND, mg_int X G c_MOST_ROUNDS, mg_str X G c_FIGURES⟩
  have hC := PySem.W.mg_of X G aC
  have Tc : Cons K C := ⟨⟨pg, hd, po, sa⟩, nN⟩
  obtain ⟨f_is_integer, d_is_integer, a_is_integer, F_is_integer⟩ := t_is_integer
  obtain ⟨f_is_between, d_is_between, a_is_between, F_is_between⟩ := t_is_between
  obtain ⟨f_are_signs, d_are_signs, a_are_signs, F_are_signs⟩ := t_are_signs
  obtain ⟨f_is_row, d_is_row, a_is_row, F_is_row⟩ := t_is_row
  obtain ⟨f_check_number, d_check_number, a_check_number, F_check_number⟩ := t_check_number
  obtain ⟨f_power, d_power, a_power, F_power⟩ := t_power
  obtain ⟨f_are_letters, d_are_letters, a_are_letters, F_are_letters⟩ := t_are_letters
  obtain ⟨f_check_loop, d_check_loop, a_check_loop, F_check_loop⟩ := t_check_loop
  obtain ⟨f_heights_of, d_heights_of, a_heights_of, F_heights_of⟩ := t_heights_of
  obtain ⟨f_shortest_loop, d_shortest_loop, a_shortest_loop, F_shortest_loop⟩ := t_shortest_loop
  obtain ⟨f_is_whole_round, d_is_whole_round, a_is_whole_round, F_is_whole_round⟩ := t_is_whole_round
  obtain ⟨f_turns_of, d_turns_of, a_turns_of, F_turns_of⟩ := t_turns_of
  obtain ⟨f_height_key, d_height_key, a_height_key, F_height_key⟩ := t_height_key
  obtain ⟨f_greatest_by, d_greatest_by, a_greatest_by, F_greatest_by⟩ := t_greatest_by
  obtain ⟨f_divisors_sign, d_divisors_sign, a_divisors_sign, F_divisors_sign⟩ := t_divisors_sign
  obtain ⟨f_rounds_by, d_rounds_by, a_rounds_by, F_rounds_by⟩ := t_rounds_by
  obtain ⟨f_rounds_listed, d_rounds_listed, a_rounds_listed, F_rounds_listed⟩ := t_rounds_listed
  obtain ⟨f_check_round, d_check_round, a_check_round, F_check_round⟩ := t_check_round
  obtain ⟨f_is_round, d_is_round, a_is_round, F_is_round⟩ := t_is_round
  obtain ⟨f_greatest_turn, d_greatest_turn, a_greatest_turn, F_greatest_turn⟩ := t_greatest_turn
  obtain ⟨f_count_rounds, d_count_rounds, a_count_rounds, F_count_rounds⟩ := t_count_rounds
  obtain ⟨f_all_rounds, d_all_rounds, a_all_rounds, F_all_rounds⟩ := t_all_rounds
  obtain ⟨f_number_in, d_number_in, a_number_in, F_number_in⟩ := t_number_in
  obtain ⟨f_law_box, d_law_box, a_law_box, F_law_box⟩ := t_law_box
  obtain ⟨f_law_dice, d_law_dice, a_law_dice, F_law_dice⟩ := t_law_dice
  obtain ⟨f_law_of, d_law_of, a_law_of, F_law_of⟩ := t_law_of
  obtain ⟨f_law_letters, d_law_letters, a_law_letters, F_law_letters⟩ := t_law_letters
  obtain ⟨f_law_is_round, d_law_is_round, a_law_is_round, F_law_is_round⟩ := t_law_is_round
  obtain ⟨f_law_key, d_law_key, a_law_key, F_law_key⟩ := t_law_key
  obtain ⟨f_law_turns, d_law_turns, a_law_turns, F_law_turns⟩ := t_law_turns
  obtain ⟨f_law_greatest, d_law_greatest, a_law_greatest, F_law_greatest⟩ := t_law_greatest
  obtain ⟨f_law_every, d_law_every, a_law_every, F_law_every⟩ := t_law_every
  obtain ⟨f_law_count, d_law_count, a_law_count, F_law_count⟩ := t_law_count
  obtain ⟨f_law_list_right, d_law_list_right, a_law_list_right, F_law_list_right⟩ := t_law_list_right
  obtain ⟨f_law_loop_right, d_law_loop_right, a_law_loop_right, F_law_loop_right⟩ := t_law_loop_right
  obtain ⟨f_law_right, d_law_right, a_law_right, F_law_right⟩ := t_law_right
  obtain ⟨f_law, d_law, a_law, F_law⟩ := t_law
  obtain ⟨g_init, e_init, b_init, i_init, H_init⟩ := m_init
  obtain ⟨g_say, e_say, b_say, i_say, H_say⟩ := m_say
  obtain ⟨g_is_own, e_is_own, b_is_own, i_is_own, H_is_own⟩ := m_is_own
  obtain ⟨g_answer, e_answer, b_answer, i_answer, H_answer⟩ := m_answer
  obtain ⟨g_other_answer, e_other_answer, b_other_answer, i_other_answer, H_other_answer⟩ := m_other_answer
  have e := hfa.symm.trans (PySem.W.mg_of X G a_law)
  cases e
  refine ⟨d_law, fun_bind1 F_law fun _ _ _ _ _ _ _ => rfl, fun base _ _ => ?_⟩
  have k_is_integer : Kp l.prog w K mg base 1 "is_integer" ["value"] spInteger := kp_mk X G a_is_integer F_is_integer (ok_integer F_is_integer gl) (fun _ _ _ _ _ _ us hl => match us, hl with | [_], _ => rfl) (fun q e => by cases e; intros; rfl)
  have k_is_between : Kp l.prog w K mg base 2 "is_between" ["value", "least", "most"] spBetween := kp_mk X G a_is_between F_is_between (ok_between F_is_between k_is_integer) (fun _ _ _ _ _ _ us hl => match us, hl with | [_, _, _], _ => rfl) (fun q e => by cases e)
  have k_are_signs : Kp l.prog w K mg base 1 "are_signs" ["value", "signs", "least", "most"] spSigns := kp_mk X G a_are_signs F_are_signs (ok_signs F_are_signs gl) (fun _ _ _ _ _ _ us hl => match us, hl with | [_, _, _, _], _ => rfl) (fun q e => by cases e)
  have k_is_row : Kp l.prog w K mg base 2 "is_row" ["value"] spIsRow := kp_mk X G a_is_row F_is_row (ok_isRow F_is_row gl k_are_signs) (fun _ _ _ _ _ _ us hl => match us, hl with | [_], _ => rfl) (fun q e => by cases e; intros; rfl)
  have k_check_number : Kp l.prog w K mg base 3 "check_number" ["number", "least", "most"] spCheckNumber := kp_mk X G a_check_number F_check_number (ok_checkNumber F_check_number k_is_between) (fun _ _ _ _ _ _ us hl => match us, hl with | [_, _, _], _ => rfl) (fun q e => by cases e)
  have k_power : Kp l.prog w K mg base 1 "power" ["worth", "many"] spPower := kp_mk X G a_power F_power (ok_power F_power gl) (fun _ _ _ _ _ _ us hl => match us, hl with | [_, _], _ => rfl) (fun q e => by cases e)
  have k_are_letters : Kp l.prog w K mg base 1 "are_letters" ["value"] spLettersOk := kp_mk X G a_are_letters F_are_letters (ok_lettersOk F_are_letters gl) (fun _ _ _ _ _ _ us hl => match us, hl with | [_], _ => rfl) (fun q e => by cases e; intros; rfl)
  have k_check_loop : Kp l.prog w K mg base 2 "check_loop" ["loop"] spCheckLoop := kp_mk X G a_check_loop F_check_loop (ok_checkLoop F_check_loop k_are_letters) (fun _ _ _ _ _ _ us hl => match us, hl with | [_], _ => rfl) (fun q e => by cases e; intros; rfl)
  have k_heights_of : Kp l.prog w K mg base 1 "heights_of" ["letters"] spHeights := kp_mk X G a_heights_of F_heights_of (ok_heights F_heights_of gl) (fun _ _ _ _ _ _ us hl => match us, hl with | [_], _ => rfl) (fun q e => by cases e; intros; rfl)
  have k_shortest_loop : Kp l.prog w K mg base 1 "shortest_loop" ["loop"] spShortest := kp_mk X G a_shortest_loop F_shortest_loop (ok_shortest F_shortest_loop gl) (fun _ _ _ _ _ _ us hl => match us, hl with | [_], _ => rfl) (fun q e => by cases e; intros; rfl)
  have k_is_whole_round : Kp l.prog w K mg base 2 "is_whole_round" ["loop"] spWhole := kp_mk X G a_is_whole_round F_is_whole_round (ok_whole F_is_whole_round k_shortest_loop) (fun _ _ _ _ _ _ us hl => match us, hl with | [_], _ => rfl) (fun q e => by cases e; intros; rfl)
  have k_turns_of : Kp l.prog w K mg base 1 "turns_of" ["loop"] spTurns := kp_mk X G a_turns_of F_turns_of (ok_turns F_turns_of gl) (fun _ _ _ _ _ _ us hl => match us, hl with | [_], _ => rfl) (fun q e => by cases e; intros; rfl)
  have k_height_key : Kp l.prog w K mg base 2 "height_key" ["loop"] spHKey := kp_mk X G a_height_key F_height_key (ok_hkey F_height_key k_heights_of) (fun _ _ _ _ _ _ us hl => match us, hl with | [_], _ => rfl) (fun q e => by cases e; intros; rfl)
  have k_greatest_by : Kp l.prog w K mg base 3 "greatest_by" ["loop"] spGreatest := kp_mk X G a_greatest_by F_greatest_by (ok_greatest F_greatest_by gl k_turns_of k_height_key) (fun _ _ _ _ _ _ us hl => match us, hl with | [_], _ => rfl) (fun q e => by cases e; intros; rfl)
  have k_divisors_sign : Kp l.prog w K mg base 1 "divisors_sign" ["number"] spDivs := kp_mk X G a_divisors_sign F_divisors_sign (ok_divs F_divisors_sign gl) (fun _ _ _ _ _ _ us hl => match us, hl with | [_], _ => rfl) (fun q e => by cases e; intros; rfl)
  have k_rounds_by : Kp l.prog w K mg base 2 "rounds_by" ["number"] spRoundsBy := kp_mk X G a_rounds_by F_rounds_by (ok_roundsBy F_rounds_by gl k_divisors_sign k_power) (fun _ _ _ _ _ _ us hl => match us, hl with | [_], _ => rfl) (fun q e => by cases e; intros; rfl)
  have k_rounds_listed : Kp l.prog w K mg base 4 "rounds_listed" ["number"] spListed := kp_mk X G a_rounds_listed F_rounds_listed (ok_listed F_rounds_listed gl k_is_whole_round k_greatest_by k_height_key) (fun _ _ _ _ _ _ us hl => match us, hl with | [_], _ => rfl) (fun q e => by cases e; intros; rfl)
  have k_check_round : Kp l.prog w K mg base 3 "check_round" ["loop"] spCheckRound := kp_mk X G a_check_round F_check_round (ok_checkRound F_check_round k_check_loop k_is_whole_round) (fun _ _ _ _ _ _ us hl => match us, hl with | [_], _ => rfl) (fun q e => by cases e; intros; rfl)
  have k_is_round : Kp l.prog w K mg base 3 "is_round" ["loop"] spIsRound := kp_mk X G a_is_round F_is_round (ok_isRound F_is_round k_check_loop k_is_whole_round) (fun _ _ _ _ _ _ us hl => match us, hl with | [_], _ => rfl) (fun q e => by cases e; intros; rfl)
  have k_greatest_turn : Kp l.prog w K mg base 4 "greatest_turn" ["loop"] spGreatestTurn := kp_mk X G a_greatest_turn F_greatest_turn (ok_greatestTurn F_greatest_turn k_check_round k_greatest_by) (fun _ _ _ _ _ _ us hl => match us, hl with | [_], _ => rfl) (fun q e => by cases e; intros; rfl)
  have k_count_rounds : Kp l.prog w K mg base 3 "count_rounds" ["number"] spRoundsBy := kp_mk X G a_count_rounds F_count_rounds (ok_count F_count_rounds gl k_is_between k_rounds_by) (fun _ _ _ _ _ _ us hl => match us, hl with | [_], _ => rfl) (fun q e => by cases e; intros; rfl)
  have k_all_rounds : Kp l.prog w K mg base 5 "all_rounds" ["number"] spAllRounds := kp_mk X G a_all_rounds F_all_rounds (ok_allRounds F_all_rounds gl k_is_between k_rounds_listed) (fun _ _ _ _ _ _ us hl => match us, hl with | [_], _ => rfl) (fun q e => by cases e; intros; rfl)
  have k_number_in : Kp l.prog w K mg base 1 "number_in" ["word"] spNumberIn := kp_mk X G a_number_in F_number_in (ok_numberIn F_number_in gl) (fun _ _ _ _ _ _ us hl => match us, hl with | [_], _ => rfl) (fun q e => by cases e; intros; rfl)
  have k_law_box : Kp l.prog w K mg base 1 "_law_box" ["_law_script", "_law_k"] (spBox K) := kp_mk X G a_law_box F_law_box (ok_box F_law_box gl) (fun _ _ _ _ _ _ us hl => match us, hl with | [_, _], _ => rfl) (fun q e => by cases e)
  have k_law_dice : Kp l.prog w K mg base 1 "_law_dice" ["_law_box_here", "_law_sides"] spDice := kp_mk X G a_law_dice F_law_dice (ok_dice F_law_dice gl) (fun _ _ _ _ _ _ us hl => match us, hl with | [_, _], _ => rfl) (fun q e => by cases e)
  have k_law_of : Kp l.prog w K mg base 2 "_law_of" ["_law_box_here", "_law_things"] spOf := kp_mk X G a_law_of F_law_of (ok_of F_law_of gl k_law_dice) (fun _ _ _ _ _ _ us hl => match us, hl with | [_, _], _ => rfl) (fun q e => by cases e)
  have k_law_letters : Kp l.prog w K mg base 3 "_law_letters" ["_law_box_here", "_law_many"] spLetters := kp_mk X G a_law_letters F_law_letters (ok_letters F_law_letters gl k_law_of) (fun _ _ _ _ _ _ us hl => match us, hl with | [_, _], _ => rfl) (fun q e => by cases e)
  have k_law_is_round : Kp l.prog w K mg base 1 "_law_is_round" ["_law_loop"] spLIsRound := kp_mk X G a_law_is_round F_law_is_round (ok_lIsRound F_law_is_round gl) (fun _ _ _ _ _ _ us hl => match us, hl with | [_], _ => rfl) (fun q e => by cases e; intros; rfl)
  have k_law_key : Kp l.prog w K mg base 1 "_law_key" ["_law_letters_here"] spLKey := kp_mk X G a_law_key F_law_key (ok_lKey F_law_key gl) (fun _ _ _ _ _ _ us hl => match us, hl with | [_], _ => rfl) (fun q e => by cases e; intros; rfl)
  have k_law_turns : Kp l.prog w K mg base 1 "_law_turns" ["_law_loop"] spTurns := kp_mk X G a_law_turns F_law_turns (ok_lTurns F_law_turns gl) (fun _ _ _ _ _ _ us hl => match us, hl with | [_], _ => rfl) (fun q e => by cases e; intros; rfl)
  have k_law_greatest : Kp l.prog w K mg base 2 "_law_greatest" ["_law_loop"] spLGreatest := kp_mk X G a_law_greatest F_law_greatest (ok_lGreatest F_law_greatest k_law_turns k_law_key) (fun _ _ _ _ _ _ us hl => match us, hl with | [_], _ => rfl) (fun q e => by cases e; intros; rfl)
  have k_law_every : Kp l.prog w K mg base 1 "_law_every" ["_law_many"] spLEvery := kp_mk X G a_law_every F_law_every (ok_lEvery F_law_every gl) (fun _ _ _ _ _ _ us hl => match us, hl with | [_], _ => rfl) (fun q e => by cases e; intros; rfl)
  have k_law_count : Kp l.prog w K mg base 1 "_law_count" ["_law_many"] spLCount := kp_mk X G a_law_count F_law_count (ok_lCount F_law_count gl) (fun _ _ _ _ _ _ us hl => match us, hl with | [_], _ => rfl) (fun q e => by cases e; intros; rfl)
  have k_law_list_right : KpG l.prog w K mg base 6 "_law_list_right" ["_law_many"] spLList := kg_mk X G a_law_list_right F_law_list_right (ok_lList F_law_list_right gl k_law_every k_law_is_round k_law_greatest k_law_key k_all_rounds k_count_rounds k_law_count) (fun _ _ _ _ _ _ us hl => match us, hl with | [_], _ => rfl)
  have k_law_loop_right : KpG l.prog w K mg base 5 "_law_loop_right" ["_law_loop"] spLLoop := kg_mk X G a_law_loop_right F_law_loop_right (ok_lLoop F_law_loop_right gl k_law_is_round k_law_greatest k_law_turns k_is_round k_greatest_turn) (fun _ _ _ _ _ _ us hl => match us, hl with | [_], _ => rfl)
  have bb_init : Binds K e_init ["self", "number"] [] := H_init.binds (fun _ _ _ _ _ _ us hl => match us, hl with | [_, _], _ => rfl)
  have bb_say : Binds K e_say ["self", "line"] [] := H_say.binds (fun _ _ _ _ _ _ us hl => match us, hl with | [_, _], _ => rfl)
  have bb_is_own : Binds K e_is_own ["self", "word"] [] := H_is_own.binds (fun _ _ _ _ _ _ us hl => match us, hl with | [_, _], _ => rfl)
  have bb_answer : Binds K e_answer ["self", "words"] [] := H_answer.binds (fun _ _ _ _ _ _ us hl => match us, hl with | [_, _], _ => rfl)
  have bb_other_answer : Binds K e_other_answer ["self", "word", "told"] [] := H_other_answer.binds (fun _ _ _ _ _ _ us hl => match us, hl with | [_, _, _], _ => rfl)
  have o_init : FnOk l.prog w K mg base CX0 4 g_init e_init ["self", "number"] (spInit C) := ok_init H_init gl Tc k_check_number
  have o_own : FnOk l.prog w K mg base CX0 3 g_is_own e_is_own ["self", "word"] spOwn := ok_own H_is_own k_is_row
  have o_other : FnOk l.prog w K mg base CX0 3 g_other_answer e_other_answer ["self", "word", "told"] spOther := ok_other H_other_answer gl k_number_in k_is_between k_rounds_by
  have o_answer : FnOk l.prog w K mg base CX0 4 g_answer e_answer ["self", "words"] (spAnswer C) := ok_answer H_answer gl Tc o_own bb_is_own ⟨b_is_own, i_is_own, H_is_own.kp⟩ o_other bb_other_answer ⟨b_other_answer, i_other_answer, H_other_answer.kp⟩
  have o_say : FnOk l.prog w K mg base CX0 5 g_say e_say ["self", "line"] (spSay C) := ok_say H_say gl Tc o_answer bb_answer ⟨b_answer, i_answer, H_answer.kp⟩
  have k_right : KpG l.prog w K mg base 7 "_law_right" ["_law_box_here"] spLRight := kg_mk X G a_law_right F_law_right (ok_lRight F_law_right gl k_law_dice k_law_of k_law_letters k_law_count k_count_rounds k_law_list_right k_law_loop_right Tc ⟨mk, b_init, i_init, kc⟩ o_init bb_init hC o_say bb_say ⟨b_say, i_say, H_say.kp⟩) (fun _ _ _ _ _ _ us hl => match us, hl with | [_], _ => rfl)
  exact ok_law F_law gl k_law_box k_right
end FW

set_option Elab.async false
set_option linter.all false
set_option maxRecDepth 100000
open PySem PySem.W PyProof.Rows in
set_option maxRecDepth 100000 in
set_option maxHeartbeats 0 in
theorem PySem.Challenge.cw_foldworld_k52_whole_rounds_listed_holds : PySem.Challenge.rw_foldworld_k52_whole_rounds_listed.Holds := by
  w_on; o_law; k_head; (case hw => w_witness2)
  k_fill
  refine FW.walkG (l := PySem.Challenge.rw_foldworld_k52_whole_rounds_listed) (n := 63) (k := 8) (x := "_law_script") (sp := FW.spLaw) rfl (by decide) rfl ⟨rfl, by decide, by decide⟩ (fun w h Y => PySem.W.kIn_of Y) ?F (fun K H a ns hl _ hS => ⟨a, ns, rfl, hS, hl, fun _ => rfl⟩)
  case F =>
    intro w mg fa h KX G hmg
    refine' FW.all_mk KX G hmg ?t_is_integer ?t_is_between ?t_are_signs ?t_is_row ?t_check_number ?t_power ?t_are_letters ?t_check_loop ?t_heights_of ?t_shortest_loop ?t_is_whole_round ?t_turns_of ?t_height_key ?t_greatest_by ?t_divisors_sign ?t_rounds_by ?t_rounds_listed ?t_check_round ?t_is_round ?t_greatest_turn ?t_count_rounds ?t_all_rounds ?t_number_in ?t_law_box ?t_law_dice ?t_law_of ?t_law_letters ?t_law_is_round ?t_law_key ?t_law_turns ?t_law_greatest ?t_law_every ?t_law_count ?t_law_list_right ?t_law_loop_right ?t_law_right ?t_law ?aC ?m_init ?m_say ?m_is_own ?m_answer ?m_other_answer ?pg ?hd ?po ?sa ?mk ?kc ?nN ?z_isinstance ?z_int ?z_bool ?z_str ?z_len ?z_all ?z_range ?z_max ?z_min ?z_sum ?z_sorted ?z_tuple ?z_divmod ?z_abs ?z_dict ?z_list ?z_repr ?c_MOST_ARCHES ?c_MOST_LETTERS ?c_MOST_ROUND ?c_MOST_ROUNDS ?c_FIGURES
    (case t_is_integer => refine' FW.td_mk ?a ?l ?c ?k; (case a => k_is); (case l => k_is); (case c => k_is); (case k => k_is))
    (case t_is_between => refine' FW.td_mk ?a ?l ?c ?k; (case a => k_is); (case l => k_is); (case c => k_is); (case k => k_is))
    (case t_are_signs => refine' FW.td_mk ?a ?l ?c ?k; (case a => k_is); (case l => k_is); (case c => k_is); (case k => k_is))
    (case t_is_row => refine' FW.td_mk ?a ?l ?c ?k; (case a => k_is); (case l => k_is); (case c => k_is); (case k => k_is))
    (case t_check_number => refine' FW.td_mk ?a ?l ?c ?k; (case a => k_is); (case l => k_is); (case c => k_is); (case k => k_is))
    (case t_power => refine' FW.td_mk ?a ?l ?c ?k; (case a => k_is); (case l => k_is); (case c => k_is); (case k => k_is))
    (case t_are_letters => refine' FW.td_mk ?a ?l ?c ?k; (case a => k_is); (case l => k_is); (case c => k_is); (case k => k_is))
    (case t_check_loop => refine' FW.td_mk ?a ?l ?c ?k; (case a => k_is); (case l => k_is); (case c => k_is); (case k => k_is))
    (case t_heights_of => refine' FW.td_mk ?a ?l ?c ?k; (case a => k_is); (case l => k_is); (case c => k_is); (case k => k_is))
    (case t_shortest_loop => refine' FW.td_mk ?a ?l ?c ?k; (case a => k_is); (case l => k_is); (case c => k_is); (case k => k_is))
    (case t_is_whole_round => refine' FW.td_mk ?a ?l ?c ?k; (case a => k_is); (case l => k_is); (case c => k_is); (case k => k_is))
    (case t_turns_of => refine' FW.td_mk ?a ?l ?c ?k; (case a => k_is); (case l => k_is); (case c => k_is); (case k => k_is))
    (case t_height_key => refine' FW.td_mk ?a ?l ?c ?k; (case a => k_is); (case l => k_is); (case c => k_is); (case k => k_is))
    (case t_greatest_by => refine' FW.td_mk ?a ?l ?c ?k; (case a => k_is); (case l => k_is); (case c => k_is); (case k => k_is))
    (case t_divisors_sign => refine' FW.td_mk ?a ?l ?c ?k; (case a => k_is); (case l => k_is); (case c => k_is); (case k => k_is))
    (case t_rounds_by => refine' FW.td_mk ?a ?l ?c ?k; (case a => k_is); (case l => k_is); (case c => k_is); (case k => k_is))
    (case t_rounds_listed => refine' FW.td_mk ?a ?l ?c ?k; (case a => k_is); (case l => k_is); (case c => k_is); (case k => k_is))
    (case t_check_round => refine' FW.td_mk ?a ?l ?c ?k; (case a => k_is); (case l => k_is); (case c => k_is); (case k => k_is))
    (case t_is_round => refine' FW.td_mk ?a ?l ?c ?k; (case a => k_is); (case l => k_is); (case c => k_is); (case k => k_is))
    (case t_greatest_turn => refine' FW.td_mk ?a ?l ?c ?k; (case a => k_is); (case l => k_is); (case c => k_is); (case k => k_is))
    (case t_count_rounds => refine' FW.td_mk ?a ?l ?c ?k; (case a => k_is); (case l => k_is); (case c => k_is); (case k => k_is))
    (case t_all_rounds => refine' FW.td_mk ?a ?l ?c ?k; (case a => k_is); (case l => k_is); (case c => k_is); (case k => k_is))
    (case t_number_in => refine' FW.td_mk ?a ?l ?c ?k; (case a => k_is); (case l => k_is); (case c => k_is); (case k => k_is))
    (case t_law_box => refine' FW.td_mk ?a ?l ?c ?k; (case a => k_is); (case l => k_is); (case c => k_is); (case k => k_is))
    (case t_law_dice => refine' FW.td_mk ?a ?l ?c ?k; (case a => k_is); (case l => k_is); (case c => k_is); (case k => k_is))
    (case t_law_of => refine' FW.td_mk ?a ?l ?c ?k; (case a => k_is); (case l => k_is); (case c => k_is); (case k => k_is))
    (case t_law_letters => refine' FW.td_mk ?a ?l ?c ?k; (case a => k_is); (case l => k_is); (case c => k_is); (case k => k_is))
    (case t_law_is_round => refine' FW.td_mk ?a ?l ?c ?k; (case a => k_is); (case l => k_is); (case c => k_is); (case k => k_is))
    (case t_law_key => refine' FW.td_mk ?a ?l ?c ?k; (case a => k_is); (case l => k_is); (case c => k_is); (case k => k_is))
    (case t_law_turns => refine' FW.td_mk ?a ?l ?c ?k; (case a => k_is); (case l => k_is); (case c => k_is); (case k => k_is))
    (case t_law_greatest => refine' FW.td_mk ?a ?l ?c ?k; (case a => k_is); (case l => k_is); (case c => k_is); (case k => k_is))
    (case t_law_every => refine' FW.td_mk ?a ?l ?c ?k; (case a => k_is); (case l => k_is); (case c => k_is); (case k => k_is))
    (case t_law_count => refine' FW.td_mk ?a ?l ?c ?k; (case a => k_is); (case l => k_is); (case c => k_is); (case k => k_is))
    (case t_law_list_right => refine' FW.td_mk ?a ?l ?c ?k; (case a => k_is); (case l => k_is); (case c => k_is); (case k => k_is))
    (case t_law_loop_right => refine' FW.td_mk ?a ?l ?c ?k; (case a => k_is); (case l => k_is); (case c => k_is); (case k => k_is))
    (case t_law_right => refine' FW.td_mk ?a ?l ?c ?k; (case a => k_is); (case l => k_is); (case c => k_is); (case k => k_is))
    (case t_law => refine' FW.td_mk ?a ?l ?c ?k; (case a => k_is); (case l => k_is); (case c => k_is); (case k => k_is))
    (case aC => k_is)
    (case m_init => refine' FW.md_mk ?a ?i ?l ?c ?k; (case a => k_is); (case i => k_is); (case l => k_is); (case c => k_is); (case k => k_is))
    (case m_say => refine' FW.md_mk ?a ?i ?l ?c ?k; (case a => k_is); (case i => k_is); (case l => k_is); (case c => k_is); (case k => k_is))
    (case m_is_own => refine' FW.md_mk ?a ?i ?l ?c ?k; (case a => k_is); (case i => k_is); (case l => k_is); (case c => k_is); (case k => k_is))
    (case m_answer => refine' FW.md_mk ?a ?i ?l ?c ?k; (case a => k_is); (case i => k_is); (case l => k_is); (case c => k_is); (case k => k_is))
    (case m_other_answer => refine' FW.md_mk ?a ?i ?l ?c ?k; (case a => k_is); (case i => k_is); (case l => k_is); (case c => k_is); (case k => k_is))
    (case pg => k_is)
    (case hd => k_is)
    (case po => k_is)
    (case sa => k_is)
    (case mk => k_is)
    (case kc => k_is)
    (case nN => k_is)
    (case z_isinstance => k_is)
    (case z_int => k_is)
    (case z_bool => k_is)
    (case z_str => k_is)
    (case z_len => k_is)
    (case z_all => k_is)
    (case z_range => k_is)
    (case z_max => k_is)
    (case z_min => k_is)
    (case z_sum => k_is)
    (case z_sorted => k_is)
    (case z_tuple => k_is)
    (case z_divmod => k_is)
    (case z_abs => k_is)
    (case z_dict => k_is)
    (case z_list => k_is)
    (case z_repr => k_is)
    (case c_MOST_ARCHES => refine' FW.ic_mk ?a ?e; (case a => k_is); (case e => decide +kernel))
    (case c_MOST_LETTERS => refine' FW.ic_mk ?a ?e; (case a => k_is); (case e => decide +kernel))
    (case c_MOST_ROUND => refine' FW.ic_mk ?a ?e; (case a => k_is); (case e => decide +kernel))
    (case c_MOST_ROUNDS => refine' FW.ic_mk ?a ?e; (case a => k_is); (case e => decide +kernel))
    (case c_FIGURES => refine' FW.sc_mk ?a ?e; (case a => k_is); (case e => decide +kernel))
