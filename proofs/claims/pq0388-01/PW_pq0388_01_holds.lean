import PyProof.Rows.All
import Wide.All
import OpenK.AllK
import Wide.FinOn
import PySem.Challenge.RW_pq0388_01
open PySem PySem.W PyProof.Rows
set_option Elab.async false
set_option maxRecDepth 100000
set_option maxHeartbeats 8000000
namespace Mine
open_top hd for PySem.Challenge.rw_pq0388_01
end Mine
-- MBase
namespace Mine
open PySem.Calls
section
variable {prog : Program} {w : World} {A : Around} {s : Shared}
  {R : Result → Shared → Prop} {name qual : Str} {params : Arguments} {body : List Stmt} {scope : Scope} {cl : List (Str × Addr)} {dV kV doc pm cdv ct : Value} {an : Option Addr} {fo : Obj} {f : Addr} {args : Args} {binds : List (Str × Value)}

/-- a call of a def without cells, the base is the whole heap at the call -/
theorem enterP (hlim : s.heap.NoLimit) (ho : s.heap.get? f = some fo) (hd : fo.data = .func (fnX name qual params body scope [] dV kV doc pm an cdv ct)) (hcd : s.heap.CodeRec cdv qual) (hroom : A.depth < recursionLimit)
    (hbind : BindsTo s (fnX name qual params body scope [] dV kV doc pm an cdv ct) args binds) (hloc : ∀ y ∈ binds, scope.names.lookup y.1 = some .local)
    (h : ∀ L h₁ tk, Fr s.heap L h₁ (fun y => binds.reverse.lookup y) → L = s.heap.objs.size →
      wpAny (model prog w) (A.deeper (envX qual scope L f cdv [])) (execs body (envX qual scope L f cdv []))
        (fun fl s' => R (.ok (.ret (match fl with | .ret v => v | _ => .none))) s')
        (fun e s' => wpAny (model prog w) (A.deeper (envX qual scope L f cdv [])) (leaving (envX qual scope L f cdv []) e) (fun _ s'' => R (.error e) s'') (fun e' s'' => R (.error e') s'') s')
        { s with heap := h₁, toks := tk })
    (hcell : ∀ x ∈ scope.names, x.2 ≠ .cell) (hco : scope.isCoroutine = false := by rfl) (hgen : scope.isGenerator = false := by rfl) (hk : scope.kind = .function := by rfl) : codeAny (model prog w) A (.call (.ref f) args) R s := by
  refine codeAny_call_def (fd := fnX name qual params body scope [] dV kV doc pm an cdv ct) (body := body) (binds := binds) hroom ho hd hlim hcd rfl hbind hcell hloc (fun h₁ hns hk₁ => ?_) hco hgen hk
  exact h s.heap.objs.size h₁ _ ⟨hns, hk₁, Nat.le_refl _⟩ rfl

/-- a call of a def with cells -/
theorem enterC (hlim : s.heap.NoLimit) (ho : s.heap.get? f = some fo) (hd : fo.data = .func (fnX name qual params body scope [] dV kV doc pm an cdv ct)) (hcd : s.heap.CodeRec cdv qual) (hroom : A.depth < recursionLimit)
    (hbind : BindsTo s (fnX name qual params body scope [] dV kV doc pm an cdv ct) args binds)
    (hkind : ∀ n, ∀ x ∈ binds, scope.names.lookup x.1 = some .local ∨ (scope.names.lookup x.1 = some .cell ∧ ((cellsFrom n scope.names []).lookup x.1).isSome = true))
    (hnd : ((cellsFrom 0 scope.names []).map (·.1)).Nodup)
    (h : ∀ L h₁ tk cells, Fr s.heap L h₁ (bindL (envOfC qual scope L f cdv).kindOf binds fun _ => none) → News s.heap L h₁ cells → L = s.heap.objs.size →
      CellsAre (bindC (envOfC qual scope L f cdv).kindOf binds fun _ => none) (cellsFrom (L + 1) scope.names []) cells →
      wpAny (model prog w) (A.deeper (envOfC qual scope L f cdv)) (execs body (envOfC qual scope L f cdv))
        (fun fl s' => R (.ok (.ret (match fl with | .ret v => v | _ => .none))) s')
        (fun e s' => wpAny (model prog w) (A.deeper (envOfC qual scope L f cdv)) (leaving (envOfC qual scope L f cdv) e) (fun _ s'' => R (.error e) s'') (fun e' s'' => R (.error e') s'') s')
        { s with heap := h₁, toks := tk })
    (hco : scope.isCoroutine = false := by rfl) (hgen : scope.isGenerator = false := by rfl) (hk : scope.kind = .function := by rfl) : codeAny (model prog w) A (.call (.ref f) args) R s := by
  refine codeAny_call_function hroom ho hd hco hgen rfl hcd (hbind _ _ _ _ ?_)
  refine wpAny_newFunctionEnv_cells hk (hkind _) fun env' he s' x => ?_
  subst he
  refine ⟨hlim.keeps x.toInCall.keep, codeAny_func ?_⟩
  obtain ⟨h₁, tk, rfl, _⟩ := x.done
  have hk₁ := x.toInCall.keep
  obtain ⟨cells, NC, Y⟩ := Cl.news (h₀ := s.heap) (Nat.le_refl _) fun n c hm => ⟨x.cell n c (lookup_of_mem_nodup (cellsFrom_names scope.names 0 (s.heap.objs.size + 1) [] [] rfl ▸ hnd) hm), x.above n c hm⟩
  exact h s.heap.objs.size h₁ tk cells ⟨x.toInCall.ns, hk₁, Nat.le_refl _⟩ NC rfl Y
end
end Mine

-- MComp
namespace Mine
open PySem.Calls

/-- what stays but for the addresses in `mu` -/
def StaysBut (mu : List Addr) (h h' : Heap) : Prop := ∀ b o, b ∉ mu → h.get? b = some o → h'.get? b = some o
theorem StaysBut.trans {mu : List Addr} {h₁ h₂ h₃ : Heap} (x : StaysBut mu h₁ h₂) (y : StaysBut mu h₂ h₃) : StaysBut mu h₁ h₃ := fun b o n e => y b o n (x b o n e)
theorem StaysBut.refl {mu : List Addr} {h : Heap} : StaysBut mu h h := fun _ _ _ e => e
def KeepsBut (mu : List Addr) (s s' : Shared) : Prop := ∃ h' tk, s' = { s with heap := h', toks := tk } ∧ StaysBut mu s.heap h'
theorem KeepsBut.of {s s' : Shared} (k : Keeps s s') : KeepsBut [] s s' := by
  obtain ⟨h', tk, e, k⟩ := k
  exact ⟨h', tk, e, fun b o _ q => k b o q⟩

section
variable {prog : Program} {w : World} {A : Around} {R : Result → Shared → Prop} {s : Shared}

abbrev tests (ifs : List Expr) (cenv : Env) : Sem Bool := forIn ifs true fun c r => if r = true then do let ok ← isTrue c cenv (eval c cenv); pure (ForInStep.yield ok) else pure (ForInStep.yield r)

theorem compLoopG {elt iter : Expr} {x : Str} {px : Pos} {ifs : List Expr} {scope : Scope} {pos : Pos} {I D : Addr} {fp wr mu : List Addr} {n : Nat} {P : Nat → Value → Prop} {St : Nat → Heap → Prop}
    {cenv : Env} {m : Str → Option Value} (W : Walks prog w A I fp wr n P St) (Inv : Nat → Heap → List Value → Prop)
    (hx : cenv.kindOf x = some .local) (hp : (cenv.scope.kind == .class || (cenv.scope.kind == .module && cenv.locals != cenv.globals)) = false)
    (hDC : D ≠ cenv.locals) (hDf : D ∉ fp) (hCf : cenv.locals ∉ fp) (hDm : D ∉ mu) (hCm : cenv.locals ∉ mu) (hfm : ∀ b ∈ fp, b ∉ mu)
    (hst : St 0 s.heap) (hacc : s.heap.PlainList D #[]) (hn : s.heap.Ns cenv.locals m) (hinv : Inv 0 s.heap [])
    (stable : ∀ i h h' ys, Inv i h ys → StaysBut (cenv.locals :: D :: wr) h h' → Inv i h' ys)
    (turn : ∀ i v s₂ m₂ ys, i < n → P i v → ys.length ≤ i → Inv i s₂.heap ys → s₂.heap.PlainList D (List.toArray ys) → St (i + 1) s₂.heap → s₂.heap.Ns cenv.locals m₂ → m₂ x = some v → StaysBut (cenv.locals :: D :: (wr ++ mu)) s.heap s₂.heap →
      wpAny (model prog w) A (tests ifs cenv) (fun ok s₃ => KeepsBut mu s₂ s₃ ∧ if ok = true then
          wpAny (model prog w) A (eval elt cenv) (fun y s₄ => KeepsBut mu s₃ s₄ ∧ Inv (i + 1) s₄.heap (ys ++ [y])) (notedBy (model prog w) A cenv fun e s' => R (.error e) s') s₃
        else Inv (i + 1) s₃.heap ys) (notedBy (model prog w) A cenv fun e s' => R (.error e) s') s₂)
    (hR : ∀ h' tk m' ys, ys.length ≤ n → h'.Ns cenv.locals m' → h'.PlainList D (List.toArray ys) → Inv n h' ys → StaysBut (cenv.locals :: D :: (wr ++ mu)) s.heap h' → R (.ok .next) { s with heap := h', toks := tk })
    (hsz : n ≤ sizeLine) :
    codeAny (model prog w) A (.compLoop (.ListComp elt [⟨.Name x px, iter, ifs, 0⟩] scope pos) 0 (.ref I) (.ref D) cenv) R s := by
  have hCw : cenv.locals ∉ wr := fun h => hCf (W.sub _ h)
  have hDw : D ∉ wr := fun h => hDf (W.sub _ h)
  have inF : ∀ b ∈ fp, b ≠ cenv.locals ∧ b ≠ D := fun b hb => ⟨fun e => hCf (e ▸ hb), fun e => hDf (e ▸ hb)⟩
  refine codeAny_compLoop_tests
    (fun k s' => ∃ h' tk m' ys i, s' = { s with heap := h', toks := tk } ∧ St i h' ∧ h'.PlainList D (List.toArray ys) ∧ h'.Ns cenv.locals m' ∧ Inv i h' ys ∧ ys.length ≤ i ∧ i ≤ n ∧ k = n + 1 - i ∧ StaysBut (cenv.locals :: D :: (wr ++ mu)) s.heap h') ?_ (n + 1)
    ⟨s.heap, s.toks, m, [], 0, rfl, hst, hacc, hn, hinv, Nat.le_refl _, Nat.zero_le _, rfl, .refl⟩
  rintro k s' ⟨H, tk, m', ys, i, rfl, hst', hacc', hn', hI, hlen, hi, rfl, hk⟩
  by_cases hlt : i < n
  · refine W.item i _ _ _ hlt hst' fun v h₁ tk₁ hPv hst₁ hk₁ => ?_
    refine wpAny_assign_Name (wpAny_storeName_local hx (hn'.at' fun o e => hk₁ _ o hCw e) (fun h₂ hn₂ hs₂ => ?_) hp)
    have up₂ : StaysBut (cenv.locals :: D :: wr) H h₂ := fun b o hb e => hs₂.extBut b o (fun q => hb (by simp [q])) (hk₁ b o (fun q => hb (by simp [q])) e)
    have upD : H.get? D = h₁.get? D ∨ True := .inr trivial
    have hst₂ : St (i + 1) h₂ := W.frame _ _ _ hst₁ fun b hb o e => hs₂.extBut b o (inF b hb).1 e
    have hacc₂ : h₂.PlainList D (List.toArray ys) := hacc'.at fun o e => hs₂.extBut D o hDC (hk₁ D o hDw e)
    have hk₂ : StaysBut (cenv.locals :: D :: (wr ++ mu)) s.heap h₂ := fun b o hb e => up₂ b o (fun q => hb (by
      rcases List.mem_cons.mp q with q | q
      · simp [q]
      · rcases List.mem_cons.mp q with q | q
        · simp [q]
        · simp [q])) (hk b o hb e)
    refine wpAny_mono (turn i v _ _ ys hlt hPv hlen (stable i H h₂ ys hI up₂) hacc₂ hst₂ hn₂ (by first | k_memK | simp) hk₂) (fun ok s₃ h₃ => ?_) fun _ _ e => e
    obtain ⟨⟨h₃, tk₃, rfl, hk₃⟩, hok⟩ := h₃
    have hst₃ : St (i + 1) h₃ := W.frame _ _ _ hst₂ fun b hb o e => hk₃ b o (hfm b hb) e
    have hacc₃ : h₃.PlainList D (List.toArray ys) := hacc₂.at fun o e => hk₃ D o hDm e
    have hn₃ : h₃.Ns cenv.locals (fun y => if y = x then some v else m' y) := hn₂.at' fun o e => hk₃ _ o hCm e
    have hkm : StaysBut (cenv.locals :: D :: (wr ++ mu)) s.heap h₃ := fun b o hb e => hk₃ b o (fun q => hb (by simp [q])) (hk₂ b o hb e)
    cases ok with
    | false =>
      simp only [Bool.false_eq_true, if_false] at hok ⊢
      exact ⟨n + 1 - (i + 1), by omega, h₃, tk₃, _, ys, i + 1, rfl, hst₃, hacc₃, hn₃, hok, by omega, hlt, rfl, hkm⟩
    | true =>
      simp only [if_true] at hok ⊢
      refine wpAny_mono hok (fun y s₄ h₄ => ?_) fun _ _ e => e
      obtain ⟨⟨h₄, tk₄, rfl, hk₄⟩, hI₄⟩ := h₄
      have hacc₄ : h₄.PlainList D (List.toArray ys) := hacc₃.at fun o e => hk₄ D o hDm e
      refine wpAny_list_append_plain (hsz := by rw [List.size_toArray]; omega) hacc₄ fun h₅ hl₅ hs₅ => ?_
      refine ⟨n + 1 - (i + 1), by omega, h₅, tk₄, (fun y => if y = x then some v else m' y), ys ++ [y], i + 1, rfl, ?_, ?_, ?_, ?_, by rw [List.length_append, List.length_singleton]; omega, hlt, rfl, ?_⟩
      · exact W.frame _ _ _ (W.frame _ _ _ hst₃ fun b hb o e => hk₄ b o (hfm b hb) e) fun b hb o e => hs₅.extBut b o (inF b hb).2 e
      · simpa using hl₅
      · exact (hn₃.at' fun o e => hk₄ _ o hCm e).sameBut hs₅ (Ne.symm hDC)
      · exact stable _ h₄ h₅ _ hI₄ fun b o hb e => hs₅.extBut b o (fun q => hb (by simp [q])) e
      · exact fun b o hb e => hs₅.extBut b o (fun q => hb (by simp [q])) (hk₄ b o (fun q => hb (by simp [q])) (hkm b o hb e))
  · have hin : i = n := by omega
    subst hin
    refine W.done _ _ _ hst' fun h₁ tk₁ hk₁ => ?_
    refine hR h₁ tk₁ m' ys hlen (hn'.at' fun o e => hk₁ _ o hCw e) (hacc'.at fun o e => hk₁ _ o hDw e) (stable _ H h₁ ys hI fun b o hb e => hk₁ b o (fun q => hb (by simp [q])) e) ?_
    exact fun b o hb e => hk₁ b o (fun q => hb (by simp [q])) (hk b o hb e)
end

section
variable {prog : Program} {w : World} {A : Around} {E : Value → Shared → Prop} {env : Env}

/-- a list comprehension, one clause, with captured names; the turns may change what stands in `mu` -/
theorem compG0 {s : Shared} {elt iter : Expr} {x : Str} {px : Pos} {ifs : List Expr} {scope : Scope} {cl : List (Str × Addr)} {pos pos' : Pos} {use : Option (Value → Sem Unit)} {Q : Value → Shared → Prop}
    (hclos : closureFor scope env = pure cl) (hcell : ∀ y ∈ scope.names, y.2 ≠ .cell) (hkind : scope.kind = .function)
    (hnames : ∀ y ∈ scope.names, y.2 = .local → scope.names.lookup y.1 = some .local) (hx : scope.names.lookup x = some .local)
    (h : wpAny (model prog w) A (eval iter env) (fun xv s₁ => wpAny (model prog w) A (pyIter xv) (fun it s₂ => ∃ (I : Addr) (fp wr mu : List Addr) (n : Nat) (P : Nat → Value → Prop) (St : Nat → Heap → Prop) (Inv : Addr → Addr → Nat → Heap → List Value → Prop), it = .ref I ∧ Walks prog w A I fp wr n P St ∧ n ≤ sizeLine ∧ St 0 s₂.heap ∧ (∀ b ∈ fp, b < s₂.heap.objs.size) ∧
      (∀ b ∈ mu, b < s₂.heap.objs.size) ∧ (∀ b ∈ fp, b ∉ mu) ∧
      (∀ C D, s₂.heap.objs.size ≤ C → s₂.heap.objs.size ≤ D → Inv C D 0 s₂.heap []) ∧ (∀ C D, s₂.heap.objs.size ≤ C → s₂.heap.objs.size ≤ D → ∀ i h h' ys, Inv C D i h ys → StaysBut (C :: D :: wr) h h' → Inv C D i h' ys) ∧
      (∀ C D i v s₃ m₃ ys E', s₂.heap.objs.size ≤ C → s₂.heap.objs.size ≤ D → i < n → P i v → ys.length ≤ i → Inv C D i s₃.heap ys → s₃.heap.PlainList D (List.toArray ys) → St (i + 1) s₃.heap → s₃.heap.Ns C m₃ → m₃ x = some v → StaysBut (wr ++ mu) s₂.heap s₃.heap →
        wpAny (model prog w) A (tests ifs (compEnvC scope cl C env)) (fun ok s₄ => KeepsBut mu s₃ s₄ ∧ if ok = true then
          wpAny (model prog w) A (eval elt (compEnvC scope cl C env)) (fun y s₅ => KeepsBut mu s₄ s₅ ∧ Inv C D (i + 1) s₅.heap (ys ++ [y])) E' s₄
        else Inv C D (i + 1) s₄.heap ys) E' s₃) ∧
      (∀ C D h' tk m' ys, s₂.heap.objs.size ≤ C → s₂.heap.objs.size ≤ D → D ≠ C → ys.length ≤ n → h'.Ns C m' → h'.PlainList D (List.toArray ys) → Inv C D n h' ys → StaysBut (wr ++ mu) s₂.heap h' →
        compPost (model prog w) A E use Q (.ref D) C (.ok .next) { s₂ with heap := h', toks := tk })) E s₁) E s)
    (hs : ∀ x, foldedSetIterable iter env x = pure x) :
    wpAny (model prog w) A (comprehension (.ListComp elt [⟨.Name x px, iter, ifs, 0⟩] scope pos) scope env pos' (newList []) false (eval iter env) use) Q E s := by
  refine wpAny_comprehension_free rfl hs hclos hkind hnames (wpAny_mono h (fun xv s₁ h₁ => wpAny_mono h₁ (fun it s₂ h₂ => ?_) fun _ _ e => e) fun _ _ e => e)
  obtain ⟨I, fp, wr, mu, n, P, St, Inv, rfl, W, hsz, hst, hfp, hmut, hfm, hI0, stable, turn, hQ⟩ := h₂
  have fpn : ∀ b, s₂.heap.objs.size ≤ b → b ∉ fp := fun b hb q => Nat.lt_irrefl _ (Nat.lt_of_lt_of_le (hfp b q) hb)
  have mutn : ∀ b, s₂.heap.objs.size ≤ b → b ∉ mu := fun b hb q => Nat.lt_irrefl _ (Nat.lt_of_lt_of_le (hmut b q) hb)
  refine wpAny_newObj_type (wpAny_newFunctionEnv hcell (by intro y hy; simp at hy) (fun h₁ hns₁ hsb₁ => ?_) hkind)
  dsimp only at hns₁ hsb₁ ⊢
  generalize hH2 : s₂.heap.push { cls := .type "list", dict := none, data := .seq ([] : List Value).toArray } = H2 at hns₁ hsb₁ ⊢
  have hC : H2.objs.size = s₂.heap.objs.size + 1 := by rw [← hH2, Heap.size_push]
  have hDC : s₂.heap.objs.size ≠ H2.objs.size := by rw [hC]; exact Nat.ne_of_lt (Nat.lt_succ_self _)
  have hCle : s₂.heap.objs.size ≤ H2.objs.size := by rw [hC]; exact Nat.le_succ _
  have old : ∀ b o, s₂.heap.get? b = some o → h₁.get? b = some o := fun b o e =>
    hsb₁.extBut b o (by have := Heap.lt_size e; rw [hC]; exact Nat.ne_of_lt (Nat.lt_succ_of_lt this)) (Heap.get?_push_of_some _ (hH2 ▸ Heap.get?_push_of_some _ e))
  have hacc : h₁.PlainList s₂.heap.objs.size #[] := ⟨_, hsb₁.extBut _ _ hDC (Heap.get?_push_of_some _ (hH2 ▸ Heap.get?_push_size _ rfl))⟩
  have hst₁ : St 0 h₁ := W.frame _ _ _ hst fun b _ o e => old b o e
  have nb : ∀ b o, s₂.heap.get? b = some o → b ≠ H2.objs.size ∧ b ≠ s₂.heap.objs.size := fun b o e => by
    have := Heap.lt_size e
    exact ⟨by rw [hC]; exact Nat.ne_of_lt (Nat.lt_succ_of_lt this), Nat.ne_of_lt this⟩
  have lift : ∀ {g : Heap}, StaysBut (H2.objs.size :: s₂.heap.objs.size :: (wr ++ mu)) h₁ g → StaysBut (wr ++ mu) s₂.heap g := fun {g} k b o hb e => k b o (by
      have := nb b o e
      simp only [List.mem_cons, not_or]; exact ⟨this.1, this.2, hb⟩) (old b o e)
  have loop : ∀ s₃ : Shared, s₃ = { s₂ with heap := h₁, toks := s₂.toks + ([] : List (Str × Value)).length } →
      codeAny (model prog w) A (.compLoop (.ListComp elt [⟨.Name x px, iter, ifs, 0⟩] scope pos) 0 (.ref I) (.ref s₂.heap.objs.size) (compEnvC scope cl H2.objs.size env))
        (compPost (model prog w) A E use Q (.ref s₂.heap.objs.size) H2.objs.size) s₃ := by
    rintro s₃ rfl
    refine compLoopG (hsz := hsz) (cenv := compEnvC scope cl H2.objs.size env) (mu := mu) W (Inv H2.objs.size s₂.heap.objs.size) (lookup_relabel_local hx) (by simp [compEnvC, relabel, hkind]) hDC (fpn _ (Nat.le_refl _)) (fpn _ hCle) (mutn _ (Nat.le_refl _)) (mutn _ hCle) hfm
      hst₁ hacc hns₁ (stable H2.objs.size s₂.heap.objs.size hCle (Nat.le_refl _) 0 _ _ _ (hI0 _ _ hCle (Nat.le_refl _)) fun b o _ e => old b o e) (fun i h h' ys => stable H2.objs.size s₂.heap.objs.size hCle (Nat.le_refl _) i h h' ys)
      (fun i v s₃ m₃ ys hi hv hl hI hD hS hn hm hk => turn H2.objs.size s₂.heap.objs.size i v s₃ m₃ ys _ hCle (Nat.le_refl _) hi hv hl hI hD hS hn hm (lift hk)) fun h' tk m' ys hl hn ha hI hk => ?_
    exact hQ H2.objs.size _ h' tk m' ys hCle (Nat.le_refl _) hDC hl hn ha hI (lift hk)
  exact codeAny_compStart_list (loop _ rfl) (W.self 0 _ _ _ hst₁ (loop _ rfl))
end
end Mine
namespace Mine
open PySem.Calls
theorem ltS {h : Heap} {a : Addr} {o : Obj} (e : h.get? a = some o) : @LT.lt Nat _ a h.objs.size := Heap.lt_size e
def EltOk (F : Value → Value → Prop) (g : Value → Addr → List Value → Prop) (h₁ h₃ h₄ : Heap) (v y : Value) : Prop :=
  F v y ∨ ∃ T its, y = .ref T ∧ ((∃ o, h₁.get? T = some o) ∨ h₃.get? T = none) ∧ h₄.IsList T (List.toArray its) ∧ g v T its
def EltIs (F : Value → Value → Prop) (g : Value → Addr → List Value → Prop) (h : Heap) (v y : Value) : Prop :=
  F v y ∨ ∃ T its, y = .ref T ∧ h.IsList T (List.toArray its) ∧ g v T its
def EltAt (F : Value → Value → Prop) (g : Value → Addr → List Value → Prop) (C D I : Addr) (h : Heap) (v y : Value) : Prop :=
  F v y ∨ ∃ T its, y = .ref T ∧ T ≠ C ∧ T ≠ D ∧ T ≠ I ∧ h.IsList T (List.toArray its) ∧ g v T its
theorem EltAt.keep {F : Value → Value → Prop} {g : Value → Addr → List Value → Prop} {C D I : Addr} {h h' : Heap} {v y : Value} (x : EltAt F g C D I h v y) (k : StaysBut (C :: D :: [I]) h h') : EltAt F g C D I h' v y := by
  rcases x with x | ⟨T, its, rfl, a, b, c, d, e⟩
  · exact .inl x
  · exact .inr ⟨T, its, rfl, a, b, c, d.at fun o q => k T o (by simp [a, b, c]) q, e⟩

section
variable {prog : Program} {w : World} {A : Around} {E : Value → Shared → Prop} {env : Env}

/-- a comprehension over a list that changes nothing that stood: by a test p, and what each item gives -/
theorem compR0 {s : Shared} {elt iter : Expr} {x : Str} {px : Pos} {ifs : List Expr} {scope : Scope} {cl : List (Str × Addr)} {pos pos' : Pos} {use : Option (Value → Sem Unit)} {Q : Value → Shared → Prop} (p : Value → Bool) (F : Value → Value → Prop) (g : Value → Addr → List Value → Prop)
    (hh : A.handled = none) (hclos : closureFor scope env = pure cl) (hcell : ∀ y ∈ scope.names, y.2 ≠ .cell) (hkind : scope.kind = .function)
    (hnames : ∀ y ∈ scope.names, y.2 = .local → scope.names.lookup y.1 = some .local) (hx : scope.names.lookup x = some .local)
    (h : wpAny (model prog w) A (eval iter env) (fun xv s₁ => ∃ (l : Addr) (vs : List Value), xv = .ref l ∧ s₁.heap.IsList l (List.toArray vs) ∧ vs.length ≤ sizeLine ∧
      (∀ C v s₃ m₃ E', v ∈ vs → Fr s₁.heap C s₃.heap m₃ → m₃ x = some v → wpAny (model prog w) A (tests ifs (compEnvC scope cl C env)) (fun ok s₄ => ok = p v ∧ Keeps s₃ s₄) E' s₃) ∧
      (∀ C v s₃ m₃ E', v ∈ vs → p v = true → Fr s₁.heap C s₃.heap m₃ → m₃ x = some v → wpAny (model prog w) A (eval elt (compEnvC scope cl C env)) (fun y s₄ => EltOk F g s₁.heap s₃.heap s₄.heap v y ∧ Keeps s₃ s₄) E' s₃) ∧
      (∀ C D I h' tk m' ys, s₁.heap.objs.size ≤ C → s₁.heap.objs.size ≤ D → D ≠ C → h'.Ns C m' → h'.PlainList D (List.toArray ys) → Paired (EltAt F g C D I h') (vs.filter p) ys → ys.length ≤ vs.length → s₁.heap.StaysIn h' →
        compPost (model prog w) A E use Q (.ref D) C (.ok .next) { s₁ with heap := h', toks := tk })) E s)
    (hs : ∀ x, foldedSetIterable iter env x = pure x) :
    wpAny (model prog w) A (comprehension (.ListComp elt [⟨.Name x px, iter, ifs, 0⟩] scope pos) scope env pos' (newList []) false (eval iter env) use) Q E s := by
  refine compG0 hclos hcell hkind hnames hx (wpAny_mono h (fun xv s₁ h₁ => ?_) fun _ _ e => e) hs
  obtain ⟨l, vs, rfl, hl, hsz, htest, helt, hQ⟩ := h₁
  refine wpAny_pyIter_list hl ?_
  have hlt : l < s₁.heap.objs.size := by obtain ⟨_, e, _⟩ := hl; exact Heap.lt_size e
  have old : ∀ b o, s₁.heap.get? b = some o → (s₁.heap.push { cls := .type "list_iterator", data := .fields #[.ref l, .int 0 0] }).get? b = some o := fun b o e => Heap.get?_push_of_some _ e
  have nI : ∀ b o, s₁.heap.get? b = some o → b ≠ s₁.heap.objs.size := fun b o e => Nat.ne_of_lt (Heap.lt_size e)
  refine ⟨s₁.heap.objs.size, [s₁.heap.objs.size, l], [s₁.heap.objs.size], [], vs.toArray.size, (fun i v => vs.toArray[i]? = some v), _,
    (fun C D i h ys => Paired (EltAt F g C D s₁.heap.objs.size h) ((vs.take i).filter p) ys), rfl,
    Walks.list hh s₁.heap.objs.size l (Nat.ne_of_lt hlt) vs.toArray, by rw [List.size_toArray]; exact hsz, ⟨⟨_, Heap.get?_push_size _ rfl, rfl, rfl⟩, hl.push _⟩, ?_, (fun b hb => nomatch hb), (fun b _ hb => nomatch hb), ?_, ?_, ?_, ?_⟩
  · intro b hb
    show b < (s₁.heap.push _).objs.size
    rw [Heap.size_push]
    rcases List.mem_cons.mp hb with rfl | hb
    · exact Nat.lt_succ_self _
    · rw [List.mem_singleton.mp hb]; exact Nat.lt_succ_of_lt hlt
  · intro C D _ _
    exact .nil
  · intro C D _ _ i h h' ys hP k
    exact hP.mono fun _ _ hy => hy.keep fun b o hb e => k b o (by simpa using hb) e
  · intro C D i v s₃ m₃ ys E' hC hD hi hv _ hI hpl hSt hn hm hk
    have hi' : i < vs.length := by simpa using hi
    have hvi : vs[i] = v := by
      have : vs.toArray[i]? = some vs[i] := by simp [hi']
      rw [this] at hv; exact Option.some.inj hv
    have hmem : v ∈ vs := hvi ▸ List.getElem_mem hi'
    have htk : vs.take (i + 1) = vs.take i ++ [v] := by rw [List.take_add_one, List.getElem?_eq_getElem hi', hvi]; rfl
    have hCs : s₁.heap.objs.size + 1 ≤ C := by
      have : (s₁.heap.push { cls := .type "list_iterator", data := .fields #[.ref l, .int 0 0] }).objs.size ≤ C := hC
      rwa [Heap.size_push] at this
    have hDs : s₁.heap.objs.size + 1 ≤ D := by
      have : (s₁.heap.push { cls := .type "list_iterator", data := .fields #[.ref l, .int 0 0] }).objs.size ≤ D := hD
      rwa [Heap.size_push] at this
    have F₃ : Fr s₁.heap C s₃.heap m₃ := ⟨hn, fun b o e => hk b o (by have := nI b o e; simpa using this) (old b o e), by omega⟩
    refine wpAny_mono (htest C v s₃ m₃ E' hmem F₃ hm) (fun ok s₄ h₄ => ?_) fun _ _ e => e
    obtain ⟨rfl, k₄⟩ := h₄
    refine ⟨KeepsBut.of k₄, ?_⟩
    obtain ⟨h₄, tk₄, rfl, k₄⟩ := k₄
    cases hpv : p v with
    | false =>
      simp only [Bool.false_eq_true, if_false]
      rw [htk, List.filter_append]
      simpa [hpv] using hI.mono fun _ _ hy => hy.keep fun b o _ e => k₄ b o e
    | true =>
      simp only [if_true]
      refine wpAny_mono (helt C v _ m₃ E' hmem hpv (F₃.keptAll k₄) hm) (fun y s₅ h₅ => ?_) fun _ _ e => e
      obtain ⟨hy, k₅⟩ := h₅
      refine ⟨KeepsBut.of k₅, ?_⟩
      obtain ⟨h₅, tk₅, rfl, k₅⟩ := k₅
      rw [htk, List.filter_append]
      have hI₅ : Paired (EltAt F g C D s₁.heap.objs.size h₅) ((vs.take i).filter p) ys := hI.mono fun _ _ hy => hy.keep fun b o _ e => k₅ b o (k₄ b o e)
      have hy₅ : EltAt F g C D s₁.heap.objs.size h₅ v y := by
        rcases hy with hy | ⟨T, its, rfl, hT, a, b⟩
        · exact .inl hy
        · refine .inr ⟨T, its, rfl, ?_, ?_, ?_, a, b⟩
          · rcases hT with ⟨o, e⟩ | e
            · have := ltS e; exact Nat.ne_of_lt (by omega)
            · rintro rfl
              obtain ⟨o, _, _, ho, _⟩ := hn
              have := k₄ _ _ ho
              rw [e] at this; cases this
          · rcases hT with ⟨o, e⟩ | e
            · have := ltS e; exact Nat.ne_of_lt (by omega)
            · rintro rfl
              obtain ⟨_, ho⟩ := hpl
              have := k₄ _ _ ho
              rw [e] at this; cases this
          · rcases hT with ⟨o, e⟩ | e
            · exact nI _ _ e
            · rintro rfl
              obtain ⟨⟨o, ho, _⟩, _⟩ := hSt
              have := k₄ _ _ ho
              rw [e] at this; cases this
      simpa [hpv] using Paired.snoc hI₅ hy₅
  · intro C D h' tk m' ys hC hD hDC hlen hn hpl hP hk
    have hCs : s₁.heap.objs.size + 1 ≤ C := by
      have : (s₁.heap.push { cls := .type "list_iterator", data := .fields #[.ref l, .int 0 0] }).objs.size ≤ C := hC
      rwa [Heap.size_push] at this
    have hDs : s₁.heap.objs.size + 1 ≤ D := by
      have : (s₁.heap.push { cls := .type "list_iterator", data := .fields #[.ref l, .int 0 0] }).objs.size ≤ D := hD
      rwa [Heap.size_push] at this
    refine hQ C D s₁.heap.objs.size h' tk m' ys (Nat.le_of_succ_le hCs) (Nat.le_of_succ_le hDs) hDC hn hpl ?_ (by simpa using hlen) fun b o e => hk b o (by have := nI b o e; simpa using this) (old b o e)
    have : vs.take vs.toArray.size = vs := by simp
    rw [this] at hP
    exact hP

theorem none_of_le {h : Heap} {a : Addr} (hle : h.objs.size ≤ a) : h.get? a = none := by
  cases e : h.get? a with
  | none => rfl
  | some o => exact absurd (Heap.lt_size e) (Nat.not_lt.mpr hle)

/-- the value of a comprehension over a list that changes nothing that stood -/
theorem compR {s : Shared} {elt iter : Expr} {x : Str} {px : Pos} {ifs : List Expr} {scope : Scope} {cl : List (Str × Addr)} {pos : Pos} {Q : Value → Shared → Prop} (p : Value → Bool) (F : Value → Value → Prop) (g : Value → Addr → List Value → Prop)
    (hh : A.handled = none) (hclos : closureFor scope env = pure cl) (hcell : ∀ y ∈ scope.names, y.2 ≠ .cell) (hkind : scope.kind = .function)
    (hnames : ∀ y ∈ scope.names, y.2 = .local → scope.names.lookup y.1 = some .local) (hx : scope.names.lookup x = some .local)
    (h : wpAny (model prog w) A (eval iter env) (fun xv s₁ => ∃ (l : Addr) (vs : List Value), xv = .ref l ∧ s₁.heap.IsList l (List.toArray vs) ∧ vs.length ≤ sizeLine ∧
      (∀ C v s₃ m₃ E', v ∈ vs → Fr s₁.heap C s₃.heap m₃ → m₃ x = some v → wpAny (model prog w) A (tests ifs (compEnvC scope cl C env)) (fun ok s₄ => ok = p v ∧ Keeps s₃ s₄) E' s₃) ∧
      (∀ C v s₃ m₃ E', v ∈ vs → p v = true → Fr s₁.heap C s₃.heap m₃ → m₃ x = some v → wpAny (model prog w) A (eval elt (compEnvC scope cl C env)) (fun y s₄ => EltOk F g s₁.heap s₃.heap s₄.heap v y ∧ Keeps s₃ s₄) E' s₃) ∧
      (∀ D h' tk ys, s₁.heap.get? D = none → h'.PlainList D (List.toArray ys) → Paired (EltIs F g h') (vs.filter p) ys → ys.length ≤ vs.length → s₁.heap.StaysIn h' → Q (.ref D) { s₁ with heap := h', toks := tk })) E s)
    (hs : ∀ x, foldedSetIterable iter env x = pure x := by intro _; rfl) :
    wpAny (model prog w) A (eval (.ListComp elt [⟨.Name x px, iter, ifs, 0⟩] scope pos) env) Q E s := by
  rw [eval_ListComp]
  refine compR0 (use := none) p F g hh hclos hcell hkind hnames hx (wpAny_mono h (fun xv s₁ h₁ => ?_) fun _ _ e => e) hs
  obtain ⟨l, vs, rfl, hl, hsz, htest, helt, hQ⟩ := h₁
  refine ⟨l, vs, rfl, hl, hsz, htest, helt, ?_⟩
  intro C D I h' tk m' ys hC hD hDC hn hpl hP hlen hk
  refine ⟨m', hn, fun h'' hs'' => hQ D h'' tk ys (none_of_le hD) (hpl.extBut hs''.extBut hDC) (hP.mono fun _ _ hy => ?_) hlen fun b o e => hs''.extBut b o (fun q => by rw [q, none_of_le hC] at e; cases e) (hk b o e)⟩
  rcases hy with hy | ⟨T, its, rfl, a, _, _, b, c⟩
  · exact .inl hy
  · exact .inr ⟨T, its, rfl, b.extBut hs''.extBut a, c⟩

/-- a comprehension stored at once under a local name -/
theorem compRA {s : Shared} {elt iter : Expr} {x y : Str} {px py : Pos} {ifs : List Expr} {scope : Scope} {cl : List (Str × Addr)} {pos spos : Pos} {Q : Flow → Shared → Prop} (p : Value → Bool) (F : Value → Value → Prop) (g : Value → Addr → List Value → Prop)
    (hsw : swapsWith (.ListComp elt [⟨.Name x px, iter, ifs, 0⟩] scope pos) (some (.Name y py)) spos.line env = pure true)
    (hh : A.handled = none) (hclos : closureFor scope env = pure cl) (hcell : ∀ y ∈ scope.names, y.2 ≠ .cell) (hkind : scope.kind = .function)
    (hnames : ∀ y ∈ scope.names, y.2 = .local → scope.names.lookup y.1 = some .local) (hx : scope.names.lookup x = some .local)
    (hy : env.kindOf y = some .local) (hp : (env.scope.kind == .class || (env.scope.kind == .module && env.locals != env.globals)) = false)
    (h : wpAny (model prog w) A (eval iter env) (fun xv s₁ => ∃ (l : Addr) (vs : List Value) (m : Str → Option Value), xv = .ref l ∧ s₁.heap.IsList l (List.toArray vs) ∧ vs.length ≤ sizeLine ∧ s₁.heap.Ns env.locals m ∧
      (∀ C v s₃ m₃ E', v ∈ vs → Fr s₁.heap C s₃.heap m₃ → m₃ x = some v → wpAny (model prog w) A (tests ifs (compEnvC scope cl C env)) (fun ok s₄ => ok = p v ∧ Keeps s₃ s₄) E' s₃) ∧
      (∀ C v s₃ m₃ E', v ∈ vs → p v = true → Fr s₁.heap C s₃.heap m₃ → m₃ x = some v → wpAny (model prog w) A (eval elt (compEnvC scope cl C env)) (fun y s₄ => EltOk F g s₁.heap s₃.heap s₄.heap v y ∧ Keeps s₃ s₄) E' s₃) ∧
      (∀ D h' tk ys, s₁.heap.get? D = none → h'.PlainList D (List.toArray ys) → Paired (EltIs F g h') (vs.filter p) ys → ys.length ≤ vs.length → h'.Ns env.locals (fun z => if z = y then some (.ref D) else m z) → StaysBut [env.locals] s₁.heap h' → Q .next { s₁ with heap := h', toks := tk })) E s)
    (hs : ∀ x, foldedSetIterable iter env x = pure x := by intro _; rfl) :
    wpAny (model prog w) A (exec (.Assign [.Name y py] (.ListComp elt [⟨.Name x px, iter, ifs, 0⟩] scope pos) spos) env) Q E s := by
  rw [exec_Assign_Name_used _ _ _ _ hsw]
  refine wpAny_bind (wpAny_standAt (wpAny_bind ?_))
  show wpAny _ A (do let _ ← comprehension (.ListComp elt [⟨.Name x px, iter, ifs, 0⟩] scope pos) scope env _ (newList []) false (eval iter env) (some (assign (.Name y py) env))) _ _ s
  refine wpAny_bind (wpAny_mono (compR0 (use := some (assign (.Name y py) env)) (Q := fun _ s' => Q .next s') p F g hh hclos hcell hkind hnames hx (wpAny_mono h (fun xv s₁ h₁ => ?_) fun _ _ e => e) hs) (fun _ s' hq => wpAny_pure (wpAny_pure hq)) fun _ _ e => e)
  obtain ⟨l, vs, m, rfl, hl, hsz, hns, htest, helt, hQ⟩ := h₁
  refine ⟨l, vs, rfl, hl, hsz, htest, helt, ?_⟩
  intro C D I h' tk m' ys hC hD hDC hn hpl hP hlen hk
  have hlive : ∃ o, s₁.heap.get? env.locals = some o := by obtain ⟨o, _, _, e, _⟩ := hns; exact ⟨o, e⟩
  have hLC : env.locals ≠ C := fun q => by obtain ⟨o, e⟩ := hlive; rw [q, none_of_le hC] at e; cases e
  have hLD : env.locals ≠ D := fun q => by obtain ⟨o, e⟩ := hlive; rw [q, none_of_le hD] at e; cases e
  show wpAny _ A (assign (.Name y py) env (.ref D)) _ _ _
  refine wpAny_assign_Name (wpAny_storeName_local hy (hns.keeps hk) (fun h₂ hn₂ hs₂ => ?_) hp)
  refine ⟨m', hn.sameBut hs₂ (Ne.symm hLC), fun h₃ hs₃ => hQ D h₃ _ ys (none_of_le hD) ((hpl.extBut hs₂.extBut (Ne.symm hLD)).extBut hs₃.extBut hDC) (hP.mono fun _ _ hy => ?_) hlen (hn₂.sameBut hs₃ hLC) fun b o hb e =>
    hs₃.extBut b o (fun q => by rw [q, none_of_le hC] at e; cases e) (hs₂.extBut b o (fun q => hb (by simp [q])) (hk b o e))⟩
  rcases hy with hy | ⟨T, its, rfl, a, _, _, b, c⟩
  · exact .inl hy
  · have hTL : T ≠ env.locals := fun q => by
      obtain ⟨o, ho, hcl, nn, hd⟩ := b
      obtain ⟨o', es, ep, ho', hd', _⟩ := hns.keeps hk
      rw [q] at ho; rw [ho] at ho'; cases ho'; rw [hd] at hd'; cases hd'
    exact .inr ⟨T, its, rfl, (b.extBut hs₂.extBut hTL).extBut hs₃.extBut a, c⟩
end
end Mine

-- MFor
namespace Mine
open PySem.Calls
section
variable {prog : Program} {w : World} {A : Around} {s : Shared} {env : Env} {h₀ : Heap} {L : Addr}

/-- how a turn ends that goes on -/
def TurnEnd (h₀ : Heap) (L I : Addr) (o : Obj) (J : (Str → Option Value) → List (Addr × Obj) → Prop) (s₁ s₂ : Shared) : Prop :=
  ∃ h' tk m' news', s₂ = { s₁ with heap := h', toks := tk } ∧ Fr h₀ L h' m' ∧ News h₀ L h' ((I, o) :: news') ∧ (∀ p ∈ news', p.1 ≠ I) ∧ J m' news'
def TurnPost (h₀ : Heap) (L I : Addr) (o : Obj) (J : (Str → Option Value) → List (Addr × Obj) → Prop) (s₁ : Shared) (Q : Flow → Shared → Prop) (f : Flow) (s₂ : Shared) : Prop :=
  match f with
  | .ret v => Q (.ret v) s₂
  | .brk => Q .next s₂
  | _ => TurnEnd h₀ L I o J s₁ s₂

theorem forR {target iter : Expr} {body : List Stmt} {pos : Pos} {Q : Flow → Shared → Prop} (hh : A.handled = none)
    (h : wpAny (model prog w) A (eval iter env) (fun xv s₁ => ∃ (l : Addr) (vs : List Value) (m₁ : Str → Option Value) (news₁ : List (Addr × Obj)) (J : Nat → (Str → Option Value) → List (Addr × Obj) → Prop),
      xv = .ref l ∧ s₁.heap.IsList l (List.toArray vs) ∧ Fr h₀ L s₁.heap m₁ ∧ News h₀ L s₁.heap news₁ ∧ J 0 m₁ news₁ ∧
      (∀ i h m' news', J i m' news' → Fr h₀ L h m' → News h₀ L h news' → h.IsList l (List.toArray vs)) ∧
      (∀ i v I o h tk m' news', vs[i]? = some v → J i m' news' → Fr h₀ L h m' → News h₀ L h ((I, o) :: news') → (∀ p ∈ news', p.1 ≠ I) →
        wpAny (model prog w) A (assign target env v) (fun _ s₂ => wpAny (model prog w) A (execs body env) (TurnPost h₀ L I o (J (i + 1)) s₁ Q) (fun _ _ => False) s₂) (fun _ _ => False) { s₁ with heap := h, toks := tk }) ∧
      (∀ h tk m' news', J vs.length m' news' → Fr h₀ L h m' → News h₀ L h news' → Q .next { s₁ with heap := h, toks := tk })) (fun _ _ => False) s)
    (hs : ∀ x, foldedSetIterable iter env x = pure x := by intro _; rfl) (ht : ∀ it v, letOwnedTupleGo target it v = pure () := by intro _ _; rfl) :
    wpAny (model prog w) A (exec (.For target iter body [] pos) env) Q (fun _ _ => False) s := by
  refine wpAny_For (wpAny_mono h (fun xv s₁ h₁ => ?_) fun _ _ e => e) hs
  obtain ⟨l, vs, m₁, news₁, J, rfl, hl, F, N, hJ, hkeepl, turn, done⟩ := h₁
  refine wpAny_pyIter_list hl ?_
  have hnd : ∀ p ∈ news₁, p.1 ≠ s₁.heap.objs.size := N.apart
  refine codeAny_forLoop (fun k s' => ∃ h' tk m' news' o i, s' = { s₁ with heap := h', toks := tk } ∧ h'.IsListIter s₁.heap.objs.size l i ∧ Fr h₀ L h' m' ∧ News h₀ L h' ((s₁.heap.objs.size, o) :: news') ∧
    (∀ p ∈ news', p.1 ≠ s₁.heap.objs.size) ∧ J i m' news' ∧ i ≤ vs.length ∧ k = vs.length + 1 - i) ?_ (vs.length + 1)
    ⟨_, s₁.toks, m₁, news₁, _, 0, rfl, ⟨_, Heap.get?_push_size _ rfl, rfl, rfl⟩, F.push _, N.push F _, hnd, hJ, Nat.zero_le _, rfl⟩ (fun v => ht _ v)
  rintro k s' ⟨H, tk, m', news', o, i, rfl, hit, F', N', hnd', hJ', hi, rfl⟩
  have hI := N' (s₁.heap.objs.size, o) (.head _)
  have hl' : H.IsList l (List.toArray vs) := hkeepl i H m' news' hJ' F' fun p hp => N' p (.tail _ hp)
  by_cases hlt : i < vs.length
  · refine wpAny_pyNext_list_item hit hl' (x := vs[i]) (by simp [hlt]) fun h₁ hit₁ hs₁ => ?_
    obtain ⟨o₁, ho₁, hit₁'⟩ := id hit₁
    have F₁ : Fr h₀ L h₁ m' := F'.change hs₁ hI.2.1 hI.2.2
    have N₁ : News h₀ L h₁ ((s₁.heap.objs.size, o₁) :: news') := N'.setHead hnd' hs₁ ho₁
    refine wpAny_mono (turn i vs[i] _ o₁ h₁ tk m' news' (by simp [hlt]) hJ' F₁ N₁ hnd') (fun _ s₂ h₂ => wpAny_mono h₂ (fun f s₃ h₃ => ?_) fun _ _ e => e.elim) fun _ _ e => e.elim
    have fin : TurnEnd h₀ L s₁.heap.objs.size o₁ (J (i + 1)) s₁ s₃ → ∃ m, m < vs.length + 1 - i ∧ ∃ h' tk m' news' o i', s₃ = { s₁ with heap := h', toks := tk } ∧ h'.IsListIter s₁.heap.objs.size l i' ∧ Fr h₀ L h' m' ∧ News h₀ L h' ((s₁.heap.objs.size, o) :: news') ∧
        (∀ p ∈ news', p.1 ≠ s₁.heap.objs.size) ∧ J i' m' news' ∧ i' ≤ vs.length ∧ m = vs.length + 1 - i' := by
      rintro ⟨h', tk', m'', news'', e, F'', N'', hnd'', hJ''⟩
      exact ⟨vs.length + 1 - (i + 1), by omega, h', tk', m'', news'', o₁, i + 1, e, ⟨o₁, (N'' _ (.head _)).1, hit₁'⟩, F'', N'', hnd'', hJ'', hlt, rfl⟩
    cases f with
    | ret v => exact h₃
    | brk => exact h₃
    | next => exact fin h₃
    | cont => exact fin h₃
  · have hin : i = vs.length := by omega
    subst hin
    refine wpAny_pyNext_list_end hh hit hl' (by first | k_memK | simp) fun h₁ he₁ => wpAny_execs_nil ?_
    refine done h₁ tk m' news' hJ' ⟨F'.ns.extBut he₁ (Ne.symm hI.2.1), fun b ob e => he₁ b ob (fun q => by rw [q, hI.2.2] at e; cases e) (F'.keep b ob e), F'.above⟩ fun p hp => ?_
    have := N' p (.tail _ hp)
    exact ⟨he₁ _ _ (hnd' p hp) this.1, this.2⟩
end
end Mine

-- MOps
namespace Mine
open PySem.Calls
/-- a contract of the law's -/
def DeclAt (h : Heap) (c : Addr) : Prop := ∃ o, h.get? c = some o ∧ o.cls = .ref 104
theorem DeclAt.keeps {h h' : Heap} {c : Addr} (x : DeclAt h c) (k : ∀ b o, h.get? b = some o → h'.get? b = some o) : DeclAt h' c := let ⟨o, e, r⟩ := x; ⟨o, k _ _ e, r⟩

theorem strKeys_of {es : List DictEntry} (h : (es.all fun e => match e.key with | .str _ _ => true | _ => false) = true) : StrKeys es.toArray := by
  intro e he
  have := List.all_eq_true.mp h e (by simpa using he)
  split at this
  · rename_i n t q; exact ⟨n, t, q⟩
  · cases this

section
variable {w : World} {h : Heap} {A : Around} {s : Shared} {a b c : Addr}

theorem cls104 (X : (hd.heap_39 w.params).In h) : ∃ nm q bs hdct sn sub ab col dd k0 k1 k2 k3 k5 newId, h.get? 104 = some (excClassObj nm q 104 103 bs [.type "object"] hdct sn sub ab col dd k0 k1 k2 k3 k5 newId) :=
  ⟨_, _, _, _, _, _, _, _, _, _, _, _, _, _, _, X 104 _ rfl⟩
theorem ns103 (X : (hd.heap_39 w.params).In h) : ∃ m, h.Ns 103 m ∧ m "__eq__" = none ∧ m "__ne__" = none := by
  refine ⟨_, ⟨_, _, _, X 103 _ rfl, rfl, strKeys_of rfl, fun _ => rfl⟩, rfl, rfl⟩
theorem cmpDecl (X : (hd.heap_39 w.params).In h) (D : DeclAt h c) : h.CmpInst c 104 [.type "object"] := by
  obtain ⟨o, ho, hc⟩ := D
  obtain ⟨nm, q, bs, hdct, sn, sub, ab, col, dd, k0, k1, k2, k3, k5, newId, e⟩ := cls104 X
  obtain ⟨m, hm, h1, h2⟩ := ns103 X
  exact ⟨o, nm, q, 103, bs, hdct, sn, sub, ab, col, dd, k0, k1, k2, k3, k5, newId, m, ho, hc, e, hm, h1, h2⟩
theorem declEq (X : (hd.heap_39 w.params).In s.heap) (hu : A.units < cLine) (Da : DeclAt s.heap a) (Db : DeclAt s.heap b) : SeqAt.EqAt A s (.ref a) (.ref b) (decide (a = b)) := by
  by_cases e : a = b
  · subst e
    simpa using SeqAt.EqAt.same (A := A) (s := s) (.ref a)
  · rw [decide_eq_false e]
    refine SeqAt.EqAt.of_refs e fun prog w' E Q hq => ?_
    obtain ⟨h, g, d, t, os⟩ := s
    exact richCompare_eq_other PySem.F.cmp_object PySem.F.cmp_object (cmpDecl X Da) (cmpDecl X Db) e hu hq
end

theorem newsAdd {h₀ h h' : Heap} {L D : Addr} {m : Str → Option Value} {news : List (Addr × Obj)} {o : Obj} (F : Fr h₀ L h m) (N : News h₀ L h news) (k : h.StaysIn h') (hD : h.get? D = none) (ho : h'.get? D = some o) : News h₀ L h' ((D, o) :: news) := by
  intro q hq
  rcases List.mem_cons.mp hq with rfl | hq
  · refine ⟨ho, ?_, ?_⟩
    · rintro rfl
      obtain ⟨oL, _, _, e, _⟩ := F.ns
      rw [hD] at e; cases e
    · cases e : h₀.get? D with
      | none => rfl
      | some o' => rw [F.keep _ _ e] at hD; cases hD
  · exact ⟨k _ _ (N q hq).1, (N q hq).2⟩
theorem newsKeep {h₀ h h' : Heap} {L : Addr} {news : List (Addr × Obj)} (N : News h₀ L h news) (k : h.StaysIn h') : News h₀ L h' news := fun q hq => ⟨k _ _ (N q hq).1, (N q hq).2⟩
theorem setEq {m : Str → Option Value} {x : Str} {v : Value} : (fun y => if y = x then some v else m y) x = some v := by simp
theorem setNe {m : Str → Option Value} {x z : Str} {v : Value} {r : Option Value} (hm : m z = r) (h : z ≠ x := by decide) : (fun y => if y = x then some v else m y) z = r := by simp [h, hm]

section
variable {M : Model} {prog : Program} {w : World} {A : Around} {E : Value → Shared → Prop} {s : Shared} {env : Env}

theorem nameLoc {x : Str} {pos : Pos} {v : Value} {m : Str → Option Value} {Q : Value → Shared → Prop} (hn : s.heap.Ns env.locals m) (hv : m x = some v) (h : Q v s)
    (hk : env.scope.kind = .function := by rfl) (hl : env.kindOf x = some .local := by rfl) (hd : (x == ("__debug__" : Str)) = false := by decide) : wpAny M A (eval (.Name x pos) env) Q E s := wpAny_Name (wpAny_loadName_local hk hl hn hv h) hd
theorem nameCell {x : Str} {pos : Pos} {v : Value} {c : Addr} {Q : Value → Shared → Prop} (hc : env.cells.lookup x = some c) (hv : s.heap.IsCell c (some v)) (h : Q v s)
    (hk : env.scope.kind = .function := by rfl) (hl : env.kindOf x = some .cell := by rfl) (hd : (x == ("__debug__" : Str)) = false := by decide) : wpAny M A (eval (.Name x pos) env) Q E s := wpAny_Name (wpAny_loadName_cell hk hl hc hv h) hd

/-- an item at a written place of a list -/
theorem subK {value : Expr} {k : Nat} {j : Nat} {p pos : Pos} {Q : Value → Shared → Prop}
    (h : wpAny (model prog w) A (eval value env) (fun o s₁ => ∃ (l : Addr) (vs : List Value) (x : Value), o = .ref l ∧ s₁.heap.IsList l (List.toArray vs) ∧ vs[k]? = some x ∧ ∀ tk, Q x { s₁ with toks := tk }) E s)
    (hk : (k : Int) < 2 ^ 63 := by decide)
    (hs : ∀ l u, subscripted (.Constant (.int (k : Int)) j p) false (.ref l) (.int (k : Int) u) = operate [.ref l, .int (k : Int) u] (getItem (.ref l) (.int (k : Int) u)) := by intro _ _; with_unfolding_all rfl) :
    wpAny (model prog w) A (eval (.Subscript value (.Constant (.int (k : Int)) j p) pos) env) Q E s := by
  refine Subscript_ (wpAny_mono h (fun o s₁ h₁ => ?_) fun _ _ e => e)
  obtain ⟨l, vs, x, rfl, hl, hx, hQ⟩ := h₁
  refine wpAny_Constant_int ?_
  have hl' : ({ s₁ with toks := s₁.toks + 1 } : Shared).heap.IsList l (List.toArray vs) := hl
  exact tail_any hl'.typeIs slot_list_getitem.lookup (wpAny_getItem_list hl' (Int.natCast_nonneg k) hk (by simpa using hx) (hQ _)) (hs _ _)

/-- an item at a reckoned place of a list -/
theorem subI {value slice : Expr} {pos : Pos} {Q : Value → Shared → Prop}
    (h : wpAny (model prog w) A (eval value env) (fun o s₁ => wpAny (model prog w) A (eval slice env) (fun i s₂ => ∃ (l : Addr) (vs : List Value) (k : Int) (t : Tok) (x : Value), o = .ref l ∧ i = .int k t ∧ s₂.heap.IsList l (List.toArray vs) ∧ 0 ≤ k ∧ k < 2 ^ 63 ∧ vs[k.toNat]? = some x ∧ Q x s₂) E s₁) E s)
    (hs : ∀ l k u, subscripted slice false (.ref l) (.int k u) = operate [.ref l, .int k u] (getItem (.ref l) (.int k u)) := by intro _ _ _; with_unfolding_all rfl) :
    wpAny (model prog w) A (eval (.Subscript value slice pos) env) Q E s := by
  refine Subscript_ (wpAny_mono h (fun o s₁ h₁ => wpAny_mono h₁ (fun i s₂ h₂ => ?_) fun _ _ e => e) fun _ _ e => e)
  obtain ⟨l, vs, k, t, x, rfl, rfl, hl, h0, h63, hx, hQ⟩ := h₂
  exact tail_any hl.typeIs slot_list_getitem.lookup (wpAny_getItem_list hl h0 h63 (by simpa using hx) hQ) (hs _ _ _)

theorem pick1 (vs : List Value) : slicePick vs.toArray (some 1) none none = (vs.drop 1).toArray := by
  have e : sliceBounds (some 1) none none vs.toArray.size = (((min 1 vs.toArray.size : Nat) : Int), ((vs.toArray.size : Nat) : Int), 1) := by
    simp only [sliceBounds, Option.getD_none, show (1 : Int) > 0 by decide, if_true, if_neg (show ¬ ((1 : Int) < 0) by decide)]
    congr 1
    omega
  rw [kmk_pick_nat _ e]
  congr 1
  show ((vs.drop (min 1 vs.toArray.size)).take (vs.toArray.size - min 1 vs.toArray.size)) = _
  rw [List.size_toArray, kmk_drop_min, List.take_of_length_le (by rw [List.length_drop]; omega)]

/-- `value[1:]` -/
theorem slice1 {value : Expr} {j : Nat} {p p2 pos : Pos} {Q : Value → Shared → Prop}
    (h : wpAny (model prog w) A (eval value env) (fun o s₁ => ∃ (l : Addr) (vs : List Value), o = .ref l ∧ s₁.heap.IsList l (List.toArray vs) ∧ vs.length ≤ sizeLine ∧
      (∀ D h' tk, s₁.heap.get? D = none → h'.PlainList D (List.toArray (vs.drop 1)) → s₁.heap.StaysIn h' → Q (.ref D) { s₁ with heap := h', toks := tk })) E s)
    (ht : ∀ o r, letTemporaryGo value o r = pure () := by intro _ _; rfl) :
    wpAny (model prog w) A (eval (.Subscript value (.Slice (some (.Constant (.int 1) j p)) none none p2) pos) env) Q E s := by
  refine wpAny_Subscript_Slice list_getitem_lookup (wpAny_mono h (fun o s₁ h₁ => ?_) fun _ _ e => e) ht
  obtain ⟨l, vs, rfl, hl, hsz, hQ⟩ := h₁
  refine wpAny_Slice ?_
  refine wpAny_Constant_int (k := j) (pos := p) (wpAny_pure (wpAny_pure ?_))
  have hl' := hl.push { cls := .type "slice", data := .fields #[.int 1 s₁.toks, .none, .none] }
  refine ⟨hl'.typeIs (s := { s₁ with heap := _, toks := _ }), wpAny_getItem_list_slice (s := { s₁ with heap := _, toks := _ }) hl' (Heap.IsSliceOf.new ..) (.int 1 _) .none .none (by first | k_memK | simp) ?_ (by rw [List.size_toArray]; exact hsz)⟩
  rw [pick1]
  refine hQ _ _ _ ?_ ⟨0, Heap.get?_push_size _ rfl⟩ fun b o e => Heap.get?_push_of_some _ (Heap.get?_push_of_some _ e)
  exact none_of_le (by rw [Heap.size_push]; exact Nat.le_succ _)

/-- `value[::-1]` -/
theorem sliceRev {value : Expr} {j : Nat} {p p2 p3 pos : Pos} {Q : Value → Shared → Prop}
    (h : wpAny (model prog w) A (eval value env) (fun o s₁ => ∃ (l : Addr) (vs : List Value), o = .ref l ∧ s₁.heap.IsList l (List.toArray vs) ∧ vs.length ≤ sizeLine ∧
      (∀ D h' tk, s₁.heap.get? D = none → h'.PlainList D (List.toArray vs.reverse) → s₁.heap.StaysIn h' → Q (.ref D) { s₁ with heap := h', toks := tk })) E s)
    (ht : ∀ o r, letTemporaryGo value o r = pure () := by intro _ _; rfl)
    (hm : ∀ (s₁ : Shared) (Q' : Value → Shared → Prop), (∀ tk, Q' (.int (-1) tk) { s₁ with toks := tk + 1 }) → wpAny (model prog w) A (eval (.UnaryOp .USub (.Constant (.int 1) j p) p3) env) Q' E s₁) :
    wpAny (model prog w) A (eval (.Subscript value (.Slice none none (some (.UnaryOp .USub (.Constant (.int 1) j p) p3)) p2) pos) env) Q E s := by
  refine wpAny_Subscript_Slice_step list_getitem_lookup (wpAny_mono h (fun o s₁ h₁ => ?_) fun _ _ e => e) ht
  obtain ⟨l, vs, rfl, hl, hsz, hQ⟩ := h₁
  refine wpAny_Slice (wpAny_pure (wpAny_pure ?_))
  refine hm s₁ _ fun tk => ?_
  have hl' := hl.push { cls := .type "slice", data := .fields #[.none, .none, .int (-1) tk] }
  refine ⟨hl'.typeIs (s := { s₁ with heap := _, toks := _ }), wpAny_getItem_list_slice (s := { s₁ with heap := _, toks := _ }) hl' (Heap.IsSliceOf.new ..) .none .none (.int (-1) _) (by first | k_memK | simp) ?_ (by rw [List.size_toArray]; exact hsz)⟩
  rw [krv_pick]
  refine hQ _ _ _ ?_ ⟨0, Heap.get?_push_size _ rfl⟩ fun b o e => Heap.get?_push_of_some _ (Heap.get?_push_of_some _ e)
  exact none_of_le (by rw [Heap.size_push]; exact Nat.le_succ _)
end

def DeclsAre (h : Heap) (vs : List Value) : Prop := ∀ v ∈ vs, ∃ c, v = .ref c ∧ DeclAt h c
theorem DeclsAre.keeps {h h' : Heap} {vs : List Value} (x : DeclsAre h vs) (k : ∀ b o, h.get? b = some o → h'.get? b = some o) : DeclsAre h' vs := fun v hv => let ⟨c, e, d⟩ := x v hv; ⟨c, e, d.keeps k⟩
def hitsInt (x : Int) : Value → Bool
  | .int a _ => a == x
  | _ => false
theorem anyHits {vs : List Value} {ns : List Int} (x : Int) (h : IntsAre vs ns) : vs.any (hitsInt x) = decide (x ∈ ns) := by
  induction h with
  | nil => simp
  | cons n t _ ih =>
    rw [List.any_cons, ih]
    simp only [hitsInt, List.mem_cons]
    by_cases e : x = n
    · subst e; simp
    · simp [e, Ne.symm e]
section
variable {prog : Program} {w w' : World} {A : Around} {E : Value → Shared → Prop} {s : Shared} {l c : Addr} {vs : List Value} {ns : List Int} {k : Int} {t : Tok} {Q : Value → Shared → Prop}
theorem inRefs (X : (hd.heap_39 w'.params).In s.heap) (hu : A.units + 1 < cLine) (hl : s.heap.IsList l (List.toArray vs)) (hd : DeclsAre s.heap vs) (Dc : DeclAt s.heap c)
    (h : Q (.bool (decide (Value.ref c ∈ vs))) s) : wpAny (model prog w) A (compareOp .In (.ref c) (.ref l)) Q E s := by
  refine SeqAt.in_listAt (fun y => decide (y = .ref c)) hl (fun y hy => ?_) ?_
  · obtain ⟨b, rfl, Db⟩ := hd y (by simpa using hy)
    have := declEq (A := A.in1) X hu Db Dc
    have e : decide (Value.ref b = Value.ref c) = decide (b = c) := by simp
    show SeqAt.EqAt A.in1 s (.ref b) (.ref c) (decide (Value.ref b = Value.ref c))
    rw [e]; exact this
  · have e : vs.toArray.any (fun y => decide (y = .ref c)) = decide (Value.ref c ∈ vs) := by
      simp only [List.any_toArray]
      rw [Bool.eq_iff_iff]; simp
    rw [e]; exact h
theorem inInts (hl : s.heap.IsList l (List.toArray vs)) (hi : IntsAre vs ns) (h : Q (.bool (decide (k ∈ ns))) s) : wpAny (model prog w) A (compareOp .In (.int k t) (.ref l)) Q E s := by
  refine SeqAt.in_listAt (hitsInt k) hl (fun y hy => ?_) ?_
  · obtain ⟨n, u, rfl⟩ := hi.all y (by simpa using hy)
    exact (MeetsSeq.EqGives.int n k u t).at _ _
  · rw [List.any_toArray, anyHits k hi]; exact h
theorem notInInts (hl : s.heap.IsList l (List.toArray vs)) (hi : IntsAre vs ns) (h : Q (.bool (!decide (k ∈ ns))) s) : wpAny (model prog w) A (compareOp .NotIn (.int k t) (.ref l)) Q E s := by
  refine SeqAt.notIn_listAt (hitsInt k) hl (fun y hy => ?_) ?_
  · obtain ⟨n, u, rfl⟩ := hi.all y (by simpa using hy)
    exact (MeetsSeq.EqGives.int n k u t).at _ _
  · rw [List.any_toArray, anyHits k hi]; exact h
end

section
variable {M : Model} {prog : Program} {w : World} {A : Around} {E : Value → Shared → Prop} {s : Shared} {env : Env} {h₀ : Heap} {m : Str → Option Value} {pre post : List (Addr × Obj)} {c : Addr} {o : Obj} {x : Str} {v : Value} {v₀ : Option Value} {L : Addr}
theorem stCell {Q : Unit → Shared → Prop} (hc : env.cells.lookup x = some c) (F : Fr h₀ L s.heap m) (N : News h₀ L s.heap (pre ++ (c, o) :: post)) (hd : o.data = .cell v₀) (h1 : ∀ p ∈ pre, p.1 ≠ c) (h2 : ∀ p ∈ post, p.1 ≠ c)
    (h : ∀ h' o', Fr h₀ L h' m → News h₀ L h' (pre ++ (c, o') :: post) → o'.data = .cell (some v) → Q () { s with heap := h' })
    (hk : env.scope.kind = .function := by rfl) (hx : env.kindOf x = some .cell := by rfl) : wpAny M A (storeName env x v) Q E s := by
  have hmem := N (c, o) (List.mem_append_right _ (.head _))
  refine wpAny_storeName_cell hk hx hc ⟨o, hmem.1, hd⟩ fun h' hv hs => ?_
  obtain ⟨o', ho', hd'⟩ := hv
  exact h h' o' (F.change hs hmem.2.1 hmem.2.2) (N.setAt h1 h2 hs ho') hd'
theorem stLoc {Q : Unit → Shared → Prop} {news : List (Addr × Obj)} (F : Fr h₀ env.locals s.heap m) (N : News h₀ env.locals s.heap news)
    (h : ∀ h' tk, Fr h₀ env.locals h' (fun y => if y = x then some v else m y) → News h₀ env.locals h' news → Q () { s with heap := h', toks := tk })
    (hk : env.scope.kind = .function := by rfl) (hx : env.kindOf x = some .local := by rfl) : wpAny M A (storeName env x v) Q E s :=
  wpAny_storeName_local hx F.ns (fun h' hn hs => h h' _ (F.set hn hs) (N.set hs)) (by rw [hk]; rfl)
theorem News.cellIs {h : Heap} {news : List (Addr × Obj)} (N : News h₀ L h news) (hm : (c, o) ∈ news) (hd : o.data = .cell v₀) : h.IsCell c v₀ := ⟨o, (N _ hm).1, hd⟩
theorem cellKeeps {h h' : Heap} (x : h.IsCell c v₀) (k : ∀ b o, h.get? b = some o → h'.get? b = some o) : h'.IsCell c v₀ := let ⟨o, e, d⟩ := x; ⟨o, k _ _ e, d⟩
theorem keepsTok {s : Shared} {tk : Nat} : Keeps s { s with toks := tk } := ⟨s.heap, tk, rfl, fun _ _ e => e⟩
theorem isListUniq {h : Heap} {a : Addr} {xs ys : List Value} (x : h.IsList a (List.toArray xs)) (y : h.IsList a (List.toArray ys)) : xs = ys := by
  obtain ⟨o, e, _, n, d⟩ := x
  obtain ⟨o', e', _, n', d'⟩ := y
  rw [e] at e'; cases e'
  rw [d] at d'
  injection d' with d' _
  exact congrArg Array.toList d'
end

section
variable {M : Model} {prog : Program} {w : World} {A : Around} {E : Value → Shared → Prop} {s : Shared} {env : Env} {h₀ h h' : Heap} {m : Str → Option Value} {news : List (Addr × Obj)} {c : Addr} {o o' : Obj} {x : Str} {v : Value} {v₀ : Option Value} {L : Addr}
theorem newsPut (N : News h₀ L h news) (hm : (c, o) ∈ news) (rest : List (Addr × Obj)) (hsub : ∀ p ∈ rest, p ∈ news) (hne : ∀ p ∈ rest, p.1 ≠ c) (hs : Heap.SameBut c h h') (ho : h'.get? c = some o') : News h₀ L h' ((c, o') :: rest) := by
  intro q hq
  rcases List.mem_cons.mp hq with rfl | hq
  · exact ⟨ho, (N _ hm).2⟩
  · exact ⟨(hs.2 _ (hne q hq)).trans (N q (hsub q hq)).1, (N q (hsub q hq)).2⟩
theorem stCellM {Q : Unit → Shared → Prop} (rest : List (Addr × Obj)) (hc : env.cells.lookup x = some c) (F : Fr h₀ L s.heap m) (N : News h₀ L s.heap news) (hm : (c, o) ∈ news) (hd : o.data = .cell v₀)
    (hsub : ∀ p ∈ rest, p ∈ news) (hne : ∀ p ∈ rest, p.1 ≠ c)
    (h : ∀ h' o', Fr h₀ L h' m → News h₀ L h' ((c, o') :: rest) → o'.data = .cell (some v) → Q () { s with heap := h' })
    (hk : env.scope.kind = .function := by rfl) (hx : env.kindOf x = some .cell := by rfl) : wpAny M A (storeName env x v) Q E s := by
  refine wpAny_storeName_cell hk hx hc ⟨o, (N _ hm).1, hd⟩ fun h' hv hs => ?_
  obtain ⟨o', ho', hd'⟩ := hv
  exact h h' o' (F.change hs (N _ hm).2.1 (N _ hm).2.2) (newsPut N hm rest hsub hne hs ho') hd'
end
end Mine

-- MHead
namespace Mine
open PySem.Calls PySem.Challenge
structure RowsAt (h : Heap) (r : Addr) (rows : List (Addr × List Value)) : Prop where
  list : h.IsList r (List.toArray (rows.map fun q => Value.ref q.1))
  row : ∀ q ∈ rows, h.IsList q.1 (List.toArray q.2)
def freeIn {α : Type} [DecidableEq α] (rows : List (List α)) (x : α) : Bool := rows.all fun r => !decide (x ∈ r.drop 1)
def freeHead {α : Type} [DecidableEq α] (rows : List (List α)) : Option α := (rows.filterMap List.head?).find? (freeIn rows)

theorem find_at {α : Type} (p : α → Bool) (x : α) (hp : p x = true) : ∀ (l : List (List α)) (i : Nat) (q : List α), l[i]? = some q → q.head? = some x → (∀ j, j < i → ∀ q', l[j]? = some q' → ∀ x', q'.head? = some x' → p x' = false) → (l.filterMap List.head?).find? p = some x
  | [], _, _, h, _, _ => by simp at h
  | a :: l, 0, q, h, hx, _ => by
    simp only [List.getElem?_cons_zero, Option.some.injEq] at h
    subst h
    simp [hx, hp]
  | a :: l, i + 1, q, h, hx, hb => by
    have ih := find_at p x hp l i q (by simpa using h) hx (fun j hj q' hq' => hb (j + 1) (by omega) q' (by simpa using hq'))
    cases ha : a.head? with
    | none => rw [List.filterMap_cons_none ha]; exact ih
    | some y => rw [List.filterMap_cons_some ha, List.find?_cons, hb 0 (by omega) a (by first | k_memK | simp) y ha]; exact ih
theorem find_no {α : Type} (p : α → Bool) (l : List (List α)) (hb : ∀ j, j < l.length → ∀ q', l[j]? = some q' → ∀ x', q'.head? = some x' → p x' = false) : (l.filterMap List.head?).find? p = none := by
  rw [List.find?_eq_none]
  intro y hy
  obtain ⟨a, ha, e⟩ := List.mem_filterMap.mp hy
  obtain ⟨j, hj, rfl⟩ := List.mem_iff_getElem.mp ha
  simp [hb j hj _ (by first | k_memK | simp) y e]
def tailHits (rows : List (Addr × List Value)) (x v : Value) : Bool := rows.any fun q => decide (Value.ref q.1 = v) && decide (x ∈ q.2.drop 1)
theorem tailHits_at {h : Heap} {r : Addr} {rows : List (Addr × List Value)} (hr : RowsAt h r rows) {q : Addr × List Value} (hq : q ∈ rows) (x : Value) : tailHits rows x (.ref q.1) = decide (x ∈ q.2.drop 1) := by
  rw [Bool.eq_iff_iff]
  unfold tailHits
  rw [List.any_eq_true]
  constructor
  · rintro ⟨q', hq', e⟩
    simp only [Bool.and_eq_true, decide_eq_true_eq] at e ⊢
    obtain ⟨e1, e2⟩ := e
    have e1 : q'.1 = q.1 := by injection e1
    have := hr.row q' hq'
    rw [e1] at this
    rw [isListUniq (hr.row q hq) this]; exact e2
  · intro e
    exact ⟨q, hq, by simpa using e⟩
theorem tailHits_none {h : Heap} {r : Addr} {rows : List (Addr × List Value)} (hr : RowsAt h r rows) (x : Value) : ((rows.map fun q => Value.ref q.1).filter (tailHits rows x)) = [] ↔ freeIn (rows.map (·.2)) x = true := by
  rw [List.filter_eq_nil_iff, freeIn, List.all_eq_true]
  constructor
  · intro e y hy
    obtain ⟨q, hq, rfl⟩ := List.mem_map.mp hy
    have := e (.ref q.1) (List.mem_map_of_mem hq)
    rw [tailHits_at hr hq x] at this
    simpa using this
  · intro e y hy
    obtain ⟨q, hq, rfl⟩ := List.mem_map.mp hy
    rw [tailHits_at hr hq x]
    simpa using e q.2 (List.mem_map_of_mem hq)

theorem headFree_spec {w : World} {A : Around} {s : Shared} {R : Result → Shared → Prop} {r : Addr} {rows : List (Addr × List Value)} (X : (hd.heap_39 w.params).In s.heap) (hlim : s.heap.NoLimit) (hh : A.handled = none) (hdp : A.depth < recursionLimit) (hu : A.units + 20 < cLine)
    (hr : RowsAt s.heap r rows) (ne : ∀ q ∈ rows, q.2 ≠ []) (hde : ∀ q ∈ rows, DeclsAre s.heap q.2) (hsz : rows.length ≤ 1000000) (hsz2 : ∀ q ∈ rows, q.2.length ≤ 1000000)
    (hR : ∀ h' tk, s.heap.StaysIn h' → R (.ok (.ret ((freeHead (rows.map (·.2))).getD .none))) { s with heap := h', toks := tk }) :
    codeAny (model rw_pq0388_01.row.prog w) A (.call (.ref 70) ⟨[.ref r], []⟩) R s := by
  refine enterC hlim (X 70 _ rfl) rfl (codeRec_of X rfl) hdp (BindsTo.of_eq rfl) (kindsX rfl) (by decide +kernel) ?_
  intro L h₁ tk cells F N hL Y
  refine wpAny_noRaise ?_
  obtain ⟨o, rfl, d1⟩ := CellsAre.one Y
  clear Y
  refine wpAny_execs_cons ?_
  refine forR (h₀ := s.heap) (L := L) hh ?_
  refine nameLoc (v := .ref r) F.ns rfl ?_
  refine ⟨r, rows.map fun q => Value.ref q.1, _, _, fun i m' news' => m' "rows" = some (.ref r) ∧ (∃ o' c, news' = [(L + 1, o')] ∧ o'.data = .cell c) ∧ ∀ j, j < i → ∀ q, rows[j]? = some q → ∀ x, q.2.head? = some x → freeIn (rows.map (·.2)) x = false,
    rfl, F.lst hr.list, F, N, ⟨rfl, ⟨o, _, rfl, d1⟩, fun j hj => absurd hj (Nat.not_lt_zero _)⟩, fun _ _ _ _ _ F' _ => F'.lst hr.list, ?_, ?_⟩
  · -- a turn
    rintro i v I oI h tk' m' news' hv ⟨hm, ⟨o', c, rfl, d2⟩, hbefore⟩ F' N' hnI
    obtain ⟨q, hqi, rfl⟩ : ∃ q, rows[i]? = some q ∧ Value.ref q.1 = v := by
      rw [List.getElem?_map] at hv
      cases e : rows[i]? with
      | none => rw [e] at hv; cases hv
      | some q => rw [e] at hv; exact ⟨q, rfl, Option.some.inj hv⟩
    have hq : q ∈ rows := List.mem_of_getElem? hqi
    have hnI' : L + 1 ≠ I := hnI _ (.head _)
    refine wpAny_assign_Name (stCell (c := L + 1) (pre := [(I, oI)]) (post := []) rfl F' N' d2 (fun p hp => by rw [List.mem_singleton.mp hp]; exact Ne.symm hnI') (fun p hp => nomatch hp) fun h₂ o₂ F₂ N₂ d₃ => ?_)
    obtain ⟨x, rest, hx⟩ : ∃ x rest, q.2 = x :: rest := by
      cases e : q.2 with
      | nil => exact absurd e (ne q hq)
      | cons x rest => exact ⟨x, rest, rfl⟩
    have hcell : h₂.IsCell (L + 1) (some (.ref q.1)) := Mine.News.cellIs N₂ (o := o₂) (by first | k_memK | simp) d₃
    have hx0 : q.2[0]? = some x := by rw [hx]; rfl
    have hDx : ∃ cx, x = .ref cx ∧ DeclAt s.heap cx := hde q hq x (by rw [hx]; exact .head _)
    obtain ⟨cx, rfl, hDx⟩ := hDx
    refine wpAny_execs_cons (wpAny_If (isTrue_not (isTrue_plain ?_)))
    refine compR (tailHits rows (.ref cx)) (fun v y => y = v) (fun _ _ _ => False) hh (cl := [("row", L + 1)]) rfl (by decide) rfl (by decide) rfl ?_
    refine nameLoc (v := .ref r) F₂.ns hm ?_
    refine ⟨r, _, rfl, F₂.lst hr.list, by simp [sizeLine]; omega, ?_, ?_, ?_⟩
    · -- the test
      intro C v s₃ m₃ E' hv F₃ hm₃
      obtain ⟨q', hq', rfl⟩ := List.mem_map.mp hv
      refine wpAny_tests_one (wpAny_isTrue_Compare1 (subK (k := 0) (nameCell (c := L + 1) rfl (cellKeeps hcell F₃.keep) ⟨_, _, _, rfl, F₃.lst (F₂.lst (hr.row q hq)), hx0, fun tk₁ => ?_⟩)))
      refine slice1 (nameLoc (m := m₃) F₃.ns hm₃ ⟨_, _, rfl, F₃.lst (F₂.lst (hr.row q' hq')), by have := hsz2 q' hq'; simp [sizeLine]; omega, fun D h₄ tk₄ hD hpl hk => ?_⟩)
      have up : ∀ b o, s.heap.get? b = some o → h₄.get? b = some o := fun b o e => hk b o (F₃.keep b o (F₂.keep b o e))
      refine inRefs (s := { s₃ with heap := h₄, toks := tk₄ }) (w' := w) (X.keeps up) (by show A.units + 3 + 1 < cLine; omega) hpl.isList (DeclsAre.keeps (show DeclsAre s.heap (q'.2.drop 1) from fun v hv => hde q' hq' v (List.mem_of_mem_drop hv)) up) (hDx.keeps up) ?_
      refine wpAny_truthy_bool ⟨?_, _, _, rfl, hk⟩
      rw [tailHits_at hr hq']
    · -- the element
      intro C v s₃ m₃ E' hv _ F₃ hm₃
      exact nameLoc (m := m₃) F₃.ns hm₃ ⟨.inl rfl, _, _, rfl, fun _ _ e => e⟩
    · -- behind it
      intro D h₅ tk₅ ys hD hpl hP hlen hk
      have hys : ys = (rows.map fun q => Value.ref q.1).filter (tailHits rows (.ref cx)) := by
        clear hlen hpl
        generalize (rows.map fun q => Value.ref q.1).filter (tailHits rows (.ref cx)) = l at hP
        induction hP with
        | nil => rfl
        | cons h _ ih =>
          rcases h with h | ⟨_, _, _, _, h⟩
          · rw [h, ih]
          · exact h.elim
      refine wpAny_truthy_list hpl.isList (by rw [List.size_toArray]; have : ys.length ≤ rows.length := (by simpa using hlen); omega) ?_
      have F₅ := F₂.keptAll hk
      have N₅ := newsKeep N₂ hk
      by_cases hfree : freeIn (rows.map (·.2)) (Value.ref cx) = true
      · have e : ys = [] := by rw [hys]; exact (tailHits_none hr _).mpr hfree
        subst e
        refine wpAny_execs_cons (wpAny_Return_some (subK (k := 0) (nameCell (c := L + 1) rfl (cellKeeps hcell hk) ⟨_, _, _, rfl, F₅.lst (hr.row q hq), hx0, fun tk₆ => ?_⟩)))
        have hval : (freeHead (rows.map (·.2))).getD .none = Value.ref cx := by
          have : freeHead (rows.map (·.2)) = some (Value.ref cx) := find_at (freeIn (rows.map Prod.snd)) _ hfree (rows.map Prod.snd) i q.2 (by simp [hqi]) (by rw [hx]; rfl) fun j hj q' hq' x' hx' => by
            rw [List.getElem?_map] at hq'
            cases e : rows[j]? with
            | none => rw [e] at hq'; cases hq'
            | some r' => rw [e] at hq'; cases hq'; exact hbefore j hj r' e x' hx'
          rw [this]; rfl
        have := hR h₅ tk₆ F₅.keep
        rw [hval] at this
        exact this
      · have e : ys ≠ [] := by rw [hys]; exact fun e => hfree ((tailHits_none hr _).mp e)
        have e2 : ys.toArray.isEmpty = false := by cases ys with | nil => exact absurd rfl e | cons _ _ => rfl
        rw [e2]
        refine wpAny_execs_nil (wpAny_execs_nil ?_)
        refine ⟨h₅, _, _, [(L + 1, o₂)], rfl, F₅, N₅, fun p hp => by rw [List.mem_singleton.mp hp]; exact hnI', hm, ⟨o₂, _, rfl, d₃⟩, ?_⟩
        intro j hj q' hq' x' hx'
        rcases Nat.lt_succ_iff_lt_or_eq.mp hj with hj | rfl
        · exact hbefore j hj q' hq' x' hx'
        · rw [hqi] at hq'; cases hq'
          rw [hx] at hx'; cases hx'
          simpa using hfree
  · -- none
    rintro h tk' m' news' ⟨hm, _, hall⟩ F' N'
    refine wpAny_execs_cons (wpAny_Return_some (wpAny_pure ?_))
    have hval : (freeHead (rows.map (·.2))).getD .none = Value.none := by
      have : freeHead (rows.map (·.2)) = none := find_no (freeIn (rows.map Prod.snd)) (rows.map Prod.snd) fun j hj q' hq' x' hx' => by
        rw [List.getElem?_map] at hq'
        cases e : rows[j]? with
        | none => rw [e] at hq'; cases hq'
        | some r' => rw [e] at hq'; cases hq'; exact hall j (by simpa using hj) r' e x' hx'
      rw [this]; rfl
    have := hR h tk' F'.keep
    rw [hval] at this
    exact this
end Mine

-- MAttr
namespace Mine
open PySem.Calls PySem.Challenge
noncomputable abbrev KK (w : World) : Frag := hd.heap_39 w.params
/-- what the text's own objects are, at a heap -/
structure Cx (w : World) (h : Heap) : Prop where
  X : (KK w).In h
  T : ∃ mg mb, TopRead hd.view_39 (looseW hd.view_39 []) mg mb h
theorem Cx.keeps {w : World} {h h' : Heap} (c : Cx w h) (k : ∀ b o, h.get? b = some o → h'.get? b = some o) : Cx w h' := ⟨c.X.keeps k, let ⟨mg, mb, t⟩ := c.T; ⟨mg, mb, t.keeps k⟩⟩
theorem Cx.lim {w : World} {h : Heap} (c : Cx w h) : h.NoLimit := let ⟨_, _, t⟩ := c.T; t.nolimit

def FieldAt (h : Heap) (c : Addr) (name : Str) (v : Value) : Prop := ∃ dx es n, h.get? c = some (instObj 104 dx) ∧ h.get? dx = some (dictOf es n) ∧ getL name es = some (some v)
theorem FieldAt.keeps {h h' : Heap} {c : Addr} {name : Str} {v : Value} (x : FieldAt h c name v) (k : ∀ b o, h.get? b = some o → h'.get? b = some o) : FieldAt h' c name v := let ⟨dx, es, n, a, b, e⟩ := x; ⟨dx, es, n, k _ _ a, k _ _ b, e⟩
theorem FieldAt.decl {h : Heap} {c : Addr} {name : Str} {v : Value} (x : FieldAt h c name v) : DeclAt h c := let ⟨_, _, _, a, _⟩ := x; ⟨_, a, rfl⟩

section
variable {w : World} {A : Around} {E : Value → Shared → Prop} {s : Shared} {env : Env}
theorem attrGet {c : Addr} {name : Str} {v : Value} {expr : Bool} {Q : Value → Shared → Prop} (X : (KK w).In s.heap) (hf : FieldAt s.heap c name v) (h : ∀ tk, Q v { s with toks := tk })
    (ha : findIn (KK w) (.ref 104) name = some none := by rfl) (hv : handedIn v = true := by rfl) : wpAny (model rw_pq0388_01.row.prog w) A (getAttr (.ref c) name expr) Q E s := by
  obtain ⟨dx, es, n, hc, hd, hl⟩ := hf
  exact get_value (K := KK w) (C := 104) (od := some (dictOf es n)) X ⟨hc, rfl, rfl, hd⟩ rfl (findObj_own rfl ha rfl hl) hv (h _)
theorem nameGlob {x : Str} {pos : Pos} {v : Value} {Q : Value → Shared → Prop} (c : Cx w s.heap) (e : nsIn (KK w) mainGlobals x = some (some v)) (h : Q v s) (hg : env.globals = mainGlobals := by rfl)
    (hk : env.scope.kind = .function := by rfl) (hx : env.kindOf x = some .globalImplicit := by rfl) (hd : (x == ("__debug__" : Str)) = false := by decide) : wpAny (model rw_pq0388_01.row.prog w) A (eval (.Name x pos) env) Q E s := by
  obtain ⟨mg, mb, t⟩ := c.T
  exact Name_function_global hk hx (loadGlobal_global (env := env) (by rw [hg]; exact t.g) (mg_of c.X t.g e) h) hd
theorem nameBuiltin {x : Str} {pos : Pos} {v : Value} {Q : Value → Shared → Prop} (c : Cx w s.heap) (e : nsIn (KK w) mainGlobals x = some none) (hv : bootBuiltins x = some v) (h : Q v s) (hg : env.globals = mainGlobals := by rfl) (hb : env.builtins = builtinsNs := by rfl)
    (hk : env.scope.kind = .function := by rfl) (hx : env.kindOf x = some .globalImplicit := by rfl) (hd : (x == ("__debug__" : Str)) = false := by decide) (hn : x ≠ "__name__" := by decide) : wpAny (model rw_pq0388_01.row.prog w) A (eval (.Name x pos) env) Q E s := by
  obtain ⟨mg, mb, t⟩ := c.T
  exact Name_function_global hk hx (loadGlobal_builtin (env := env) (by rw [hg]; exact t.g) (mg_none_of c.X t.g e) (by rw [hb]; exact t.b) ((t.builtins x hn).trans hv) h) hd

/-- is_under -/
theorem isUnder_spec {R : Result → Shared → Prop} {c b lin : Addr} {vs : List Value} (C : Cx w s.heap) (hdp : A.depth < recursionLimit) (hu : A.units + 20 < cLine)
    (hf : FieldAt s.heap c "linear" (.ref lin)) (hl : s.heap.IsList lin (List.toArray vs)) (hde : DeclsAre s.heap vs) (Db : DeclAt s.heap b)
    (hR : ∀ h' tk, s.heap.StaysIn h' → R (.ok (.ret (.bool (decide (Value.ref b ∈ vs))))) { s with heap := h', toks := tk }) :
    codeAny (model rw_pq0388_01.row.prog w) A (.call (.ref 87) ⟨[.ref c, .ref b], []⟩) R s := by
  refine enterP C.lim (C.X 87 _ rfl) rfl (codeRec_of C.X rfl) hdp (BindsTo.of_eq rfl) (locs rfl) ?_ (by decide)
  intro L h₁ tk F hL
  refine wpAny_noRaise ?_
  refine wpAny_execs_cons (wpAny_Return_some (wpAny_Compare1 ?_))
  refine nameLoc (v := .ref b) F.ns rfl ?_
  refine Attribute_Name_ (nameLoc (v := .ref c) F.ns rfl (attrGet (C.X.keeps F.keep) (hf.keeps F.keep) fun tk₂ => ?_))
  exact inRefs (s := { s with heap := h₁, toks := tk₂ }) (w' := w) (C.X.keeps F.keep) (by show A.units + 3 + 1 < cLine; omega) (F.lst hl) (hde.keeps F.keep) (Db.keeps F.keep) (hR h₁ tk₂ F.keep)
end
end Mine

-- MAhead
namespace Mine
open PySem.Calls PySem.Challenge
theorem frLoc {h₀ h h' : Heap} {L : Addr} {m m' : Str → Option Value} (F : Fr h₀ L h m) (hn : h'.Ns L m') (k : StaysBut [L] h h') : Fr h₀ L h' m' :=
  ⟨hn, fun b o e => k b o (fun q => by
    have := ltS e
    have h2 : (h₀.objs.size : Nat) ≤ L := F.above
    rw [List.mem_singleton.mp q] at this
    exact absurd this (Nat.not_lt.mpr h2)) (F.keep b o e), F.above⟩
theorem newsLoc {h₀ h h' : Heap} {L : Addr} {news : List (Addr × Obj)} (N : News h₀ L h news) (k : StaysBut [L] h h') : News h₀ L h' news :=
  fun p hp => ⟨k _ _ (fun q => (N p hp).2.1 (List.mem_singleton.mp q)) (N p hp).1, (N p hp).2⟩
theorem newsAddLoc {h₀ h h' : Heap} {L D : Addr} {m : Str → Option Value} {news : List (Addr × Obj)} {o : Obj} (F : Fr h₀ L h m) (N : News h₀ L h news) (k : StaysBut [L] h h') (hD : h.get? D = none) (ho : h'.get? D = some o) : News h₀ L h' ((D, o) :: news) := by
  intro q hq
  rcases List.mem_cons.mp hq with rfl | hq
  · refine ⟨ho, ?_, ?_⟩
    · rintro rfl
      obtain ⟨oL, _, _, e, _⟩ := F.ns
      rw [hD] at e; cases e
    · cases e : h₀.get? D with
      | none => rfl
      | some o' => rw [F.keep _ _ e] at hD; cases hD
  · exact newsLoc N k q hq

structure LinesAt (h : Heap) (r : Addr) (lines : List (Addr × List Int)) : Prop where
  list : h.IsList r (List.toArray (lines.map fun q => Value.ref q.1))
  line : ∀ q ∈ lines, ∃ vs, h.IsList q.1 (List.toArray vs) ∧ IntsAre vs q.2
theorem LinesAt.keeps {h h' : Heap} {r : Addr} {lines : List (Addr × List Int)} (x : LinesAt h r lines) (k : ∀ b o, h.get? b = some o → h'.get? b = some o) : LinesAt h' r lines :=
  ⟨x.list.at fun o e => k _ o e, fun q hq => let ⟨vs, a, b⟩ := x.line q hq; ⟨vs, a.at fun o e => k _ o e, b⟩⟩
def aheadOf {α : Type} [DecidableEq α] (lines : List (List α)) (left : List α) : List α := lines.flatMap fun l => (l.filter fun x => decide (x ∈ left)).drop 1
def intIn (left : List Int) : Value → Bool
  | .int a _ => decide (a ∈ left)
  | _ => false
theorem IntsAre.filterIn (p : Int → Bool) (q : Value → Bool) (hq : ∀ a t, q (.int a t) = p a) {vs : List Value} {ns : List Int} (h : IntsAre vs ns) : IntsAre (vs.filter q) (ns.filter p) := by
  induction h with
  | nil => exact .nil
  | cons n t _ ih =>
    by_cases e : p n = true
    · rw [List.filter_cons_of_pos (by rw [hq]; exact e), List.filter_cons_of_pos e]
      exact .cons n t ih
    · rw [List.filter_cons_of_neg (by rw [hq]; exact e), List.filter_cons_of_neg e]
      exact ih
theorem pairedEq {h : Heap} {l ys : List Value} (hP : Paired (EltIs (fun v y => y = v) (fun _ _ _ => False) h) l ys) : ys = l := by
  induction hP with
  | nil => rfl
  | cons h _ ih =>
    rcases h with h | ⟨_, _, _, _, h⟩
    · rw [h, ih]
    · exact h.elim
theorem aheadOf_len {α : Type} [DecidableEq α] (lines : List (List α)) (left : List α) : (aheadOf lines left).length ≤ (lines.map List.length).sum := by
  induction lines with
  | nil => simp [aheadOf]
  | cons l r ih =>
    have : aheadOf (l :: r) left = (l.filter fun x => decide (x ∈ left)).drop 1 ++ aheadOf r left := by simp [aheadOf]
    rw [this, List.length_append, List.map_cons, List.sum_cons, List.length_drop]
    have := List.length_filter_le (fun x => decide (x ∈ left)) l
    omega

theorem memLeSum {n : Nat} : ∀ {l : List Nat}, n ∈ l → n ≤ l.sum
  | a :: l, h => by
    rw [List.sum_cons]
    rcases List.mem_cons.mp h with rfl | h
    · omega
    · have := memLeSum h; omega
theorem takeLeSum (l : List Nat) : ∀ i, (l.take i).sum ≤ l.sum := by
  induction l with
  | nil => intro i; simp
  | cons a l ih =>
    intro i
    cases i with
    | zero => simp
    | succ i => have := ih i; simp only [List.take_succ_cons, List.sum_cons]; omega

theorem ahead_spec {w : World} {A : Around} {s : Shared} {R : Result → Shared → Prop} {ln lf : Addr} {lines : List (Addr × List Int)} {left : List Int} {vl : List Value} (C : Cx w s.heap) (hh : A.handled = none) (hdp : A.depth < recursionLimit) (hu : A.units + 20 < cLine)
    (hln : LinesAt s.heap ln lines) (hlf : s.heap.IsList lf (List.toArray vl)) (hvl : IntsAre vl left) (hsz : lines.length ≤ 1000000) (hsum : ((lines.map Prod.snd).map List.length).sum ≤ 1000000)
    (hR : ∀ D h' tk vs, s.heap.get? D = none → s.heap.StaysIn h' → h'.PlainList D (List.toArray vs) → IntsAre vs (aheadOf (lines.map Prod.snd) left) → R (.ok (.ret (.ref D))) { s with heap := h', toks := tk }) :
    codeAny (model rw_pq0388_01.row.prog w) A (.call (.ref 125) ⟨[.ref ln, .ref lf], []⟩) R s := by
  refine enterC C.lim (C.X 125 _ rfl) rfl (codeRec_of C.X rfl) hdp (BindsTo.of_eq rfl) (kindsX rfl) (by decide +kernel) ?_
  intro L h₁ tk cells F N hL Y
  refine wpAny_noRaise ?_
  obtain ⟨o, rfl, d1⟩ := CellsAre.one Y
  clear Y
  have d1 : o.data = .cell (some (.ref lf)) := d1
  refine wpAny_execs_cons (wpAny_Assign_Name ?_)
  refine List_ (spliced_none (newList_K F N (fun D h₂ F₂ N₂ hD₂ => ?_) (by first | k_memK | simp)))
  have hD₂' : (L + 1 : Nat) < D := hD₂ _ (.head _)
  refine stLoc F₂ N₂ fun h₃ tk₃ F₃ N₃ => ?_
  refine wpAny_execs_cons ?_
  refine forR (h₀ := s.heap) (L := L) hh ?_
  refine nameLoc (v := .ref ln) F₃.ns rfl ?_
  refine ⟨ln, lines.map fun q => Value.ref q.1, _, _, fun i m' news' => m' "lines" = some (.ref ln) ∧ ∃ o' D' vs n, news' = [(D', listOf (List.toArray vs) n), (L + 1, o')] ∧ o'.data = .cell (some (.ref lf)) ∧ m' "later" = some (.ref D') ∧ IntsAre vs (aheadOf ((lines.map Prod.snd).take i) left),
    rfl, F₃.lst hln.list, F₃, N₃, ⟨rfl, o, D, [], 0, rfl, d1, rfl, .nil⟩, fun _ _ _ _ _ F' _ => F'.lst hln.list, ?_, ?_⟩
  · rintro i v I oI h tk' m' news' hv ⟨hm, o', D', vs, n, rfl, d2, hmD, hI⟩ F' N' hnI
    obtain ⟨q, hqi, rfl⟩ : ∃ q, lines[i]? = some q ∧ Value.ref q.1 = v := by
      rw [List.getElem?_map] at hv
      cases e : lines[i]? with
      | none => rw [e] at hv; cases hv
      | some q => rw [e] at hv; exact ⟨q, rfl, Option.some.inj hv⟩
    have hq : q ∈ lines := List.mem_of_getElem? hqi
    obtain ⟨ve, hle, hie⟩ := hln.line q hq
    have hql : q.2.length ≤ 1000000 := by
      have : q.2.length ≤ ((lines.map Prod.snd).map List.length).sum := memLeSum (List.mem_map_of_mem (List.mem_map_of_mem hq))
      omega
    have hvel : ve.length ≤ 1000000 := by rw [hie.length]; exact hql
    refine wpAny_assign_Name (stLoc F' N' fun h₂ tk₂ F₂ N₂ => ?_)
    refine wpAny_execs_cons ?_
    have hcell : h₂.IsCell (L + 1) (some (.ref lf)) := Mine.News.cellIs N₂ (o := o') (by first | k_memK | simp) d2
    refine compRA (intIn left) (fun v y => y = v) (fun _ _ _ => False) (cl := [("left", L + 1)]) rfl hh rfl (by decide) rfl (by decide) rfl rfl rfl ?_
    refine nameLoc (v := .ref q.1) F₂.ns setEq ?_
    refine ⟨q.1, ve, _, rfl, F₂.lst hle, by simp [sizeLine]; omega, F₂.ns, ?_, ?_, ?_⟩
    · intro C' v s₃ m₃ E' hv F₃ hm₃
      obtain ⟨a, t, rfl⟩ := hie.all v hv
      refine wpAny_tests_one (wpAny_isTrue_Compare1 (nameLoc (m := m₃) F₃.ns hm₃ (nameCell (c := L + 1) rfl (cellKeeps hcell F₃.keep) ?_)))
      refine inInts (F₃.lst (F₂.lst hlf)) hvl (wpAny_truthy_bool ⟨?_, _, _, rfl, fun _ _ e => e⟩)
      rfl
    · intro C' v s₃ m₃ E' hv _ F₃ hm₃
      exact nameLoc (m := m₃) F₃.ns hm₃ ⟨.inl rfl, _, _, rfl, fun _ _ e => e⟩
    · intro W h₄ tk₄ ys hW hpl hP hlen hn₄ hk₄
      have hys := pairedEq hP
      subst hys
      have F₄ := frLoc F₂ hn₄ hk₄
      obtain ⟨nW, hW'⟩ := hpl
      have N₄ := newsAddLoc F₂ N₂ hk₄ hW hW'
      have hiW : IntsAre (ve.filter (intIn left)) (q.2.filter fun x => decide (x ∈ left)) := Mine.IntsAre.filterIn _ _ (fun _ _ => rfl) hie
      have hlt : i < lines.length := by
        cases Nat.lt_or_ge i lines.length with
        | inl h => exact h
        | inr h => rw [List.getElem?_eq_none h] at hqi; cases hqi
      have hlen2 : vs.length ≤ ((lines.map Prod.snd).map List.length).sum := by
        rw [hI.length]
        refine Nat.le_trans (aheadOf_len _ _) ?_
        rw [List.map_take]
        exact takeLeSum _ _
      refine wpAny_execs_cons (wpAny_Assign_Name (wpAny_BinOp ?_))
      refine nameLoc (v := .ref D') F₄.ns hmD ?_
      refine slice1 (nameLoc (v := .ref W) F₄.ns setEq ⟨W, _, rfl, ⟨_, hW', rfl, _, rfl⟩, by simp [sizeLine]; omega, fun D₅ h₅ tk₅ hD₅ hpl₅ hk₅ => ?_⟩)
      have F₅ := F₄.keptAll hk₅
      have N₅ := newsKeep N₄ hk₅
      refine add_arrays (s := { s with heap := h₅, toks := tk₅ }) F₅ N₅ (its := List.toArray vs) ⟨_, (N₅ (D', listOf (List.toArray vs) n) (by first | k_memK | simp)).1, rfl, n, rfl⟩ hpl₅.isList (fun h₆ F₆ N₆ => ?_) (by simp [sizeLine]; omega)
      refine stLoc (s := { s with heap := h₆, toks := tk₅ }) F₆ N₆ fun h₇ tk₇ F₇ N₇ => ?_
      refine wpAny_execs_nil ?_
      have hD₆ := N₇ _ (.head _)
      refine ⟨h₇, tk₇, _, [(h₅.objs.size, _), (L + 1, o')], rfl, F₇, ?_, ?_, hm, o', _, vs ++ (ve.filter (intIn left)).drop 1, 0, rfl, d2, setEq, ?_⟩
      · intro p hp
        simp only [List.mem_cons, List.not_mem_nil, or_false] at hp
        refine N₇ p ?_
        rcases hp with rfl | rfl | rfl <;> simp
      · intro p hp
        simp only [List.mem_cons, List.not_mem_nil, or_false] at hp
        rcases hp with rfl | rfl
        · have := ltS (N₅ (I, oI) (by first | k_memK | simp)).1
          exact Nat.ne_of_gt this
        · exact hnI _ (by first | k_memK | simp)
      · have e : aheadOf ((lines.map Prod.snd).take (i + 1)) left = aheadOf ((lines.map Prod.snd).take i) left ++ (q.2.filter fun x => decide (x ∈ left)).drop 1 := by
          rw [List.take_add_one, List.getElem?_map, hqi]
          simp [aheadOf]
        rw [e]
        exact hI.append (hiW.drop 1)
  · rintro h tk' m' news' ⟨hm, o', D', vs, n, rfl, d2, hmD, hI⟩ F' N'
    refine wpAny_execs_cons (wpAny_Return_some (nameLoc F'.ns hmD ?_))
    have e := N' (D', listOf (List.toArray vs) n) (by first | k_memK | simp)
    refine hR D' h tk' vs e.2.2 F'.keep ⟨n, e.1⟩ ?_
    have : (lines.map Prod.snd).take (lines.map fun q => Value.ref q.1).length = lines.map Prod.snd := List.take_of_length_le (by first | k_memK | simp)
    rw [this] at hI
    exact hI
end Mine

-- MOrd
namespace Mine
open PySem.Calls PySem.Challenge
section
variable {prog : Program} {w : World} {A : Around} {E : Value → Shared → Prop} {s : Shared} {env : Env} {h₀ : Heap} {L : Addr}
theorem appendStmt {o elt : Expr} {apos pos spos : Pos} {Q : Flow → Shared → Prop}
    (h : wpAny (model prog w) A (eval o env) (fun ov s₁ => ∃ D its₁ n₁, ov = .ref D ∧ s₁.heap.get? D = some (listOf its₁ n₁) ∧
      wpAny (model prog w) A (eval elt env) (fun y s₂ => ∃ its n, s₂.heap.get? D = some (listOf its n) ∧ its.size ≤ sizeLine ∧
        ∀ h', Heap.SameBut D s₂.heap h' → h'.get? D = some (listOf (its.push y) (n + 1)) → Q .next { s₂ with heap := h' }) E s₁) E s)
    (hbase : attributeBase o "append" env (eval o env) = eval o env := by rfl)
    (hfew : ((backTo pos (starEach [elt] env)).all (fun x => !x.1) && (backToKw pos (keywordEach [] env)).all (fun x => x.1.isSome)
      && decide (([elt] : List Expr).length + ([] : List Keyword).length + (if ([] : List Keyword).isEmpty then 0 else 1) < 30)) = true := by rfl)
    (hline : (apos.endLine == pos.line) = true := by rfl)
    (htrees : backTo pos (starEach [elt] env) = [(false, eval elt env)] := by rfl)
    (hi : interactive env = false := by rfl) (hsw : swapsWith (.Call (.Attribute o "append" apos) [elt] [] pos) none spos.line env = pure false := by rfl) :
    wpAny (model prog w) A (exec (.Expr (.Call (.Attribute o "append" apos) [elt] [] pos) spos) env) Q E s := by
  refine wpAny_Expr (wpAny_Call_append hbase hfew hline htrees (wpAny_mono h (fun ov s₁ h₁ => ?_) fun _ _ e => e)) hi hsw
  obtain ⟨D, its₁, n₁, rfl, hD, h₁⟩ := h₁
  refine ⟨D, its₁, rfl, ⟨_, n₁, hD, rfl, rfl, rfl⟩, wpAny_mono h₁ (fun y s₂ h₂ => ?_) fun _ _ e => e⟩
  obtain ⟨its, n, ho, hz, hQ⟩ := h₂
  exact append_at (hsz := hz) ho fun h' hs ho' => hQ h' hs ho'

theorem whileR {test : Expr} {body : List Stmt} {pos : Pos} {Q : Flow → Shared → Prop} {k₀ : Nat} {m : Str → Option Value} {news : List (Addr × Obj)} (J : Nat → (Str → Option Value) → List (Addr × Obj) → Prop)
    (F : Fr h₀ L s.heap m) (N : News h₀ L s.heap news) (hJ : J k₀ m news)
    (turn : ∀ k h tk m' news', J k m' news' → Fr h₀ L h m' → News h₀ L h news' → wpAny (model prog w) A (isTrue test env (eval test env)) (fun b s₂ => if b then
        wpAny (model prog w) A (execs body env) (fun f s₃ => match f with
          | .ret v => Q (.ret v) s₃
          | .brk => Q .next s₃
          | _ => ∃ k' h' tk' m'' news'', k' < k ∧ s₃ = { s with heap := h', toks := tk' } ∧ Fr h₀ L h' m'' ∧ News h₀ L h' news'' ∧ J k' m'' news'') (fun _ _ => False) s₂
      else Q .next s₂) (fun _ _ => False) { s with heap := h, toks := tk }) :
    wpAny (model prog w) A (exec (.While test body [] pos) env) Q (fun _ _ => False) s := by
  refine wpAny_While (codeAny_whileLoop (fun k s' => ∃ h' tk m' news', s' = { s with heap := h', toks := tk } ∧ Fr h₀ L h' m' ∧ News h₀ L h' news' ∧ J k m' news') ?_ k₀ ⟨s.heap, s.toks, m, news, rfl, F, N, hJ⟩)
  rintro k s' ⟨h', tk, m', news', rfl, F', N', hJ'⟩
  refine wpAny_mono (turn k h' tk m' news' hJ' F' N') (fun b s₂ h₂ => ?_) fun _ _ e => e.elim
  cases b with
  | false => exact wpAny_execs_nil h₂
  | true =>
    refine wpAny_mono h₂ (fun f s₃ h₃ => ?_) fun _ _ e => e.elim
    have fin : (∃ k' h' tk' m'' news'', k' < k ∧ s₃ = { s with heap := h', toks := tk' } ∧ Fr h₀ L h' m'' ∧ News h₀ L h' news'' ∧ J k' m'' news'') →
        ∃ m, m < k ∧ ∃ h' tk m' news', s₃ = { s with heap := h', toks := tk } ∧ Fr h₀ L h' m' ∧ News h₀ L h' news' ∧ J m m' news' := by
      rintro ⟨k', h'', tk'', m'', news'', hk, e, F'', N'', hJ''⟩
      exact ⟨k', hk, h'', tk'', m'', news'', e, F'', N'', hJ''⟩
    cases f with
    | ret v => exact h₃
    | brk => exact h₃
    | next => exact fin h₃
    | cont => exact fin h₃
end
abbrev LtN (a b : Nat) : Prop := a < b
abbrev NeN (a b : Nat) : Prop := a ≠ b
def leftOf {α : Type} [DecidableEq α] (lines : List (List α)) : List α := lines.foldl (fun left l => left ++ l.filter fun x => !decide (x ∈ left)) []
def freeOf {α : Type} [DecidableEq α] (lines : List (List α)) (left : List α) : List α := left.filter fun x => !decide (x ∈ aheadOf lines left)
def ordLoop {α : Type} [DecidableEq α] (lines : List (List α)) : Nat → List α → List α → Option (List α)
  | 0, left, due => if left = [] then some due else none
  | k + 1, left, due => if left = [] then some due else match freeOf lines left with
    | [] => none
    | f :: _ => ordLoop lines k (left.filter fun x => !decide (x = f)) (due ++ [f])
def ordered {α : Type} [DecidableEq α] (lines : List (List α)) : Option (List α) := ordLoop lines (leftOf lines).length (leftOf lines) []
def leftStep {α : Type} [DecidableEq α] (left l : List α) : List α := left ++ l.filter fun x => !decide (x ∈ left)
theorem leftOf_len {α : Type} [DecidableEq α] (lines : List (List α)) : ∀ acc : List α, (lines.foldl leftStep acc).length ≤ acc.length + (lines.map List.length).sum := by
  induction lines with
  | nil => intro acc; simp
  | cons l r ih =>
    intro acc
    have := ih (leftStep acc l)
    have h2 : (leftStep acc l).length ≤ acc.length + l.length := by
      unfold leftStep; rw [List.length_append]
      have := List.length_filter_le (fun x => !decide (x ∈ acc)) l
      omega
    simp only [List.foldl_cons, List.map_cons, List.sum_cons]
    omega

theorem staysOfExt {h h' : Heap} (x : Heap.ExtBut h.objs.size h h') : h.StaysIn h' := fun b o e => x b o (Nat.ne_of_lt (Heap.lt_size e)) e

theorem ordered_spec {w : World} {A : Around} {s : Shared} {R : Result → Shared → Prop} {ln : Addr} {lines : List (Addr × List Int)} (C : Cx w s.heap) (hh : A.handled = none) (hdp : A.depth + 5 < recursionLimit) (hu : A.units + 200 < cLine)
    (hln : LinesAt s.heap ln lines) (hsz : lines.length ≤ 1000000) (hsum : ((lines.map Prod.snd).map List.length).sum ≤ 1000000)
    (hR : ∀ h' tk v, s.heap.StaysIn h' → (match ordered (lines.map Prod.snd) with
        | none => v = .none
        | some due => ∃ D vs, v = .ref D ∧ s.heap.get? D = none ∧ h'.PlainList D (List.toArray vs) ∧ IntsAre vs due) → R (.ok (.ret v)) { s with heap := h', toks := tk }) :
    codeAny (model rw_pq0388_01.row.prog w) A (.call (.ref 130) ⟨[.ref ln], []⟩) R s := by
  refine enterC C.lim (C.X 130 _ rfl) rfl (codeRec_of C.X rfl) (by omega) (BindsTo.of_eq rfl) (kindsX rfl) (by decide +kernel) ?_
  intro L h₁ tk cells F N hL Y
  refine wpAny_noRaise ?_
  obtain ⟨o1, o2, o3, rfl, d1, d2, d3⟩ := CellsAre.three Y
  clear Y
  have hlns : (lines.map Prod.snd).length = lines.length := by simp
  -- left, due = [], []
  refine wpAny_execs_cons (Assign_Tuple (Tuple_ (spliced_more (List_ (spliced_none (newList_K F N (fun lf h₂ F₂ N₂ l₂ => ?_) (by first | k_memK | simp)))))))
  refine spliced_more (List_ (spliced_none (newList_K F₂ N₂ (fun D h₃ F₃ N₃ l₃ => ?_) (by first | k_memK | simp))))
  refine spliced_none (newTuple_N F₃ N₃ (fun h₄ F₄ N₄ => ?_) (by simp [sizeLine]))
  refine assign_Tuple_tuple hh ⟨_, (N₄ _ (.head _)).1, rfl, 0, rfl⟩ rfl rfl fun h₅ e₅ => ?_
  have F₅ := F₄.keptAll (staysOfExt e₅)
  have N₅ := newsKeep N₄ (staysOfExt e₅)
  have hlf : LtN (L + 1) lf ∧ LtN (L + 2) lf ∧ LtN (L + 3) lf := ⟨l₂ (L + 1, o3) (by first | k_memK | simp), l₂ (L + 2, o2) (by first | k_memK | simp), l₂ (L + 3, o1) (by first | k_memK | simp)⟩
  have hD : LtN lf D := l₃ (lf, _) (.head _)
  have N₅' : News s.heap L h₅ [(D, listOf #[] 0), (lf, listOf #[] 0), (L + 3, o1), (L + 2, o2), (L + 1, o3)] := fun p hp => N₅ p (.tail _ hp)
  clear N₅ N₄ F₄ N₃ F₃ N₂ F₂ e₅
  dsimp only
  refine assignInOrder_cons (wpAny_assign_Name (stCellM (c := L + 1) (o := o3) [(D, listOf #[] 0), (lf, listOf #[] 0), (L + 3, o1), (L + 2, o2)] rfl F₅ N₅' (by first | k_memK | simp) d3 (by k_allIn) (by k_all) fun h₆ oc F₆ N₆ dc => ?_))
  refine assignInOrder_cons (wpAny_assign_Name (stLoc F₆ N₆ fun h₇ tk₇ F₇ N₇ => ?_))
  refine assignInOrder_nil ?_
  dsimp only
  -- the first loop
  refine wpAny_execs_cons ?_
  refine forR (h₀ := s.heap) (L := L) hh ?_
  refine nameLoc (v := .ref ln) F₇.ns rfl ?_
  refine ⟨ln, lines.map fun q => Value.ref q.1, _, _, fun i m' news' => m' "lines" = some (.ref ln) ∧ m' "due" = some (.ref D) ∧ ∃ oc lf' vl n, news' = [(L + 1, oc), (lf', listOf (List.toArray vl) n), (D, listOf #[] 0), (L + 3, o1), (L + 2, o2)] ∧
      oc.data = .cell (some (.ref lf')) ∧ IntsAre vl (((lines.map Prod.snd).take i).foldl leftStep []) ∧ LtN (L + 3) lf' ∧ lf' ≠ D,
    rfl, F₇.lst hln.list, F₇, (fun p hp => N₇ p (by simp only [List.mem_cons, List.not_mem_nil, or_false] at hp ⊢; rcases hp with h | h | h | h | h <;> simp [h])), ⟨rfl, rfl, oc, lf, [], 0, rfl, dc, .nil, hlf.2.2, Nat.ne_of_lt hD⟩, fun _ _ _ _ _ F' _ => F'.lst hln.list, ?_, ?_⟩
  · rintro i v I oI h tk' m' news' hv ⟨hm, hmD, oc', lf', vl, n, rfl, dc', hI, hlf', hne⟩ F' N' hnI
    obtain ⟨q, hqi, rfl⟩ : ∃ q, lines[i]? = some q ∧ Value.ref q.1 = v := by
      rw [List.getElem?_map] at hv
      cases e : lines[i]? with
      | none => rw [e] at hv; cases hv
      | some q => rw [e] at hv; exact ⟨q, rfl, Option.some.inj hv⟩
    have hq : q ∈ lines := List.mem_of_getElem? hqi
    obtain ⟨ve, hle, hie⟩ := hln.line q hq
    have hql : q.2.length ≤ 1000000 := Nat.le_trans (memLeSum (List.mem_map_of_mem (List.mem_map_of_mem hq))) hsum
    have hvel : ve.length ≤ 1000000 := by rw [hie.length]; exact hql
    have hvl : vl.length ≤ 1000000 := by
      rw [hI.length]
      refine Nat.le_trans (leftOf_len _ _) ?_
      rw [List.map_take]
      have := takeLeSum ((lines.map Prod.snd).map List.length) i
      simp only [List.length_nil]
      omega
    refine wpAny_assign_Name (stLoc F' N' fun h₂ tk₂ F₂ N₂ => ?_)
    refine wpAny_execs_cons (wpAny_Assign_Name (wpAny_BinOp ?_))
    have hcell : h₂.IsCell (L + 1) (some (.ref lf')) := Mine.News.cellIs N₂ (o := oc') (by first | k_memK | simp) dc'
    have hlfl : h₂.IsList lf' (List.toArray vl) := ⟨_, (N₂ (lf', listOf (List.toArray vl) n) (by first | k_memK | simp)).1, rfl, n, rfl⟩
    refine nameCell (c := L + 1) rfl hcell ?_
    refine compR (fun v => !intIn (((lines.map Prod.snd).take i).foldl leftStep []) v) (fun v y => y = v) (fun _ _ _ => False) hh (cl := [("left", L + 1)]) rfl (by decide) rfl (by decide) rfl ?_
    refine nameLoc (v := .ref q.1) F₂.ns setEq ?_
    refine ⟨q.1, ve, rfl, F₂.lst hle, by simp [sizeLine]; omega, ?_, ?_, ?_⟩
    · intro C' v s₃ m₃ E' hv F₃ hm₃
      obtain ⟨a, t, rfl⟩ := hie.all v hv
      refine wpAny_tests_one (wpAny_isTrue_Compare1 (nameLoc (m := m₃) F₃.ns hm₃ (nameCell (c := L + 1) rfl (cellKeeps hcell F₃.keep) ?_)))
      refine notInInts (F₃.lst hlfl) hI (wpAny_truthy_bool ⟨?_, _, _, rfl, fun _ _ e => e⟩)
      rfl
    · intro C' v s₃ m₃ E' hv _ F₃ hm₃
      exact nameLoc (m := m₃) F₃.ns hm₃ ⟨.inl rfl, _, _, rfl, fun _ _ e => e⟩
    · intro W h₄ tk₄ ys hW hpl hP hlen hk₄
      have hys := pairedEq hP
      subst hys
      have F₄ := F₂.keptAll hk₄
      have N₄ := newsKeep N₂ hk₄
      have hiW : IntsAre (ve.filter fun v => !intIn (((lines.map Prod.snd).take i).foldl leftStep []) v) (q.2.filter fun x => !decide (x ∈ ((lines.map Prod.snd).take i).foldl leftStep [])) := Mine.IntsAre.filterIn _ _ (fun _ _ => rfl) hie
      refine add_arrays (s := { s with heap := h₄, toks := tk₄ }) F₄ N₄ (its := List.toArray vl) ⟨_, (N₄ (lf', listOf (List.toArray vl) n) (by first | k_memK | simp)).1, rfl, n, rfl⟩ hpl.isList (fun h₆ F₆ N₆ => ?_) (by simp only [List.size_toArray]; simp [sizeLine]; omega)
      have hnew : LtN (L + 1) h₄.objs.size ∧ LtN I h₄.objs.size ∧ LtN (L + 3) h₄.objs.size ∧ LtN D h₄.objs.size := ⟨ltS (N₄ (L + 1, oc') (by first | k_memK | simp)).1, ltS (N₄ (I, oI) (by first | k_memK | simp)).1, ltS (N₄ (L + 3, o1) (by first | k_memK | simp)).1, ltS (N₄ (D, listOf #[] 0) (by first | k_memK | simp)).1⟩
      refine stCellM (s := { s with heap := h₆, toks := tk₄ }) (c := L + 1) (o := oc') [(h₄.objs.size, listOf (List.toArray (vl ++ ve.filter fun v => !intIn (((lines.map Prod.snd).take i).foldl leftStep []) v)) 0), (I, oI), (D, listOf #[] 0), (L + 3, o1), (L + 2, o2)] rfl F₆ N₆ (by first | k_memK | simp) dc' ?_ ?_ fun h₇ oc₇ F₇ N₇ dc₇ => ?_
      · k_allIn
      · have h1 : I ≠ L + 1 := fun e => hnI (L + 1, oc') (by first | k_memK | simp) e.symm
        intro p hp
        simp only [List.mem_cons, List.not_mem_nil, or_false] at hp
        rcases hp with rfl | rfl | rfl | rfl | rfl
        · exact Nat.ne_of_gt hnew.1
        · exact h1
        · exact neN (by omega)
        · exact neN (by omega)
        · exact neN (by omega)
      · refine wpAny_execs_nil ?_
        refine ⟨h₇, tk₄, _, [(L + 1, oc₇), (h₄.objs.size, listOf (List.toArray (vl ++ ve.filter fun v => !intIn (((lines.map Prod.snd).take i).foldl leftStep []) v)) 0), (D, listOf #[] 0), (L + 3, o1), (L + 2, o2)], rfl, F₇, ?_, ?_, hm, hmD, oc₇, h₄.objs.size, _, 0, rfl, dc₇, ?_, hnew.2.2.1, Nat.ne_of_gt hnew.2.2.2⟩
        · intro p hp
          refine N₇ p ?_
          simp only [List.mem_cons, List.not_mem_nil, or_false] at hp ⊢
          rcases hp with h | h | h | h | h | h <;> simp [h]
        · intro p hp
          simp only [List.mem_cons, List.not_mem_nil, or_false] at hp
          rcases hp with rfl | rfl | rfl | rfl | rfl
          · exact hnI (L + 1, oc') (by first | k_memK | simp)
          · exact Nat.ne_of_gt hnew.2.1
          · exact hnI (D, _) (by first | k_memK | simp)
          · exact hnI (L + 3, o1) (by first | k_memK | simp)
          · exact hnI (L + 2, o2) (by first | k_memK | simp)
        · have e : ((lines.map Prod.snd).take (i + 1)).foldl leftStep [] = ((lines.map Prod.snd).take i).foldl leftStep [] ++ q.2.filter fun x => !decide (x ∈ ((lines.map Prod.snd).take i).foldl leftStep []) := by
            rw [List.take_add_one, List.getElem?_map, hqi]
            simp [leftStep]
          rw [e]
          exact hI.append hiW
  · rintro h tk' m' news' ⟨hm, hmD, oc', lf', vl, n, rfl, dc', hI, hlf', hne⟩ F' N'
    have hfull : (lines.map Prod.snd).take (lines.map fun q => Value.ref q.1).length = lines.map Prod.snd := List.take_of_length_le (by first | k_memK | simp)
    rw [hfull] at hI
    have hleft : (lines.map Prod.snd).foldl leftStep [] = leftOf (lines.map Prod.snd) := rfl
    rw [hleft] at hI
    dsimp only
    clear F₇ N₇ F₆ N₆ F₅ N₅'
    have hl6 : (leftOf (lines.map Prod.snd)).length ≤ 1000000 := by
      have := leftOf_len (lines.map Prod.snd) []
      simp only [List.length_nil, Nat.zero_add] at this
      exact Nat.le_trans this hsum
    refine wpAny_execs_cons ?_
    refine whileR (s := { s with heap := h, toks := tk' }) (h₀ := s.heap) (L := L) (k₀ := (leftOf (lines.map Prod.snd)).length) (fun k m' news' => m' "lines" = some (.ref ln) ∧ m' "due" = some (.ref D) ∧ ∃ oc o1 o2 lf' vl nl vd nd left due c1 c2,
        news' = [(L + 1, oc), (lf', listOf (List.toArray vl) nl), (D, listOf (List.toArray vd) nd), (L + 3, o1), (L + 2, o2)] ∧ oc.data = .cell (some (.ref lf')) ∧ o1.data = .cell c1 ∧ o2.data = .cell c2 ∧ IntsAre vl left ∧ IntsAre vd due ∧
        (NeN lf' (L + 1) ∧ NeN lf' (L + 2) ∧ NeN lf' (L + 3)) ∧ LtN (L + 3) D ∧ lf' ≠ D ∧ left.length ≤ k ∧ left.length + due.length ≤ 1000000 ∧ ordLoop (lines.map Prod.snd) k left due = ordered (lines.map Prod.snd)) F' N'
      ⟨hm, hmD, oc', o1, o2, lf', vl, n, [], 0, _, [], _, _, rfl, dc', d1, d2, hI, .nil, ⟨neN (by omega), neN (by omega), neN (by omega)⟩, by omega, hne, Nat.le_refl _, by simpa using hl6, rfl⟩ ?_
    clear hI dc' hne hlf' hm hmD
    rintro k h₂ tk₂ m₂ news₂ ⟨hm, hmD, oc, o1, o2, lf', vl, nl, vd, nd, left, due, c1, c2, rfl, dc, d1, d2, hIl, hId, hlf', hLD, hne, hlk, hlen, hord⟩ F₂ N₂
    have hll : vl.length = left.length := hIl.length
    have hdl : vd.length = due.length := hId.length
    have hcl : h₂.IsCell (L + 1) (some (.ref lf')) := Mine.News.cellIs N₂ (o := oc) (by first | k_memK | simp) dc
    have hlL : h₂.IsList lf' (List.toArray vl) := ⟨_, (N₂ (lf', listOf (List.toArray vl) nl) (by first | k_memK | simp)).1, rfl, nl, rfl⟩
    refine wpAny_isTrue_Compare1 (nameCell (c := L + 1) rfl hcl (List_ (spliced_none (newList_K F₂ N₂ (fun Z h₃ F₃ N₃ l₃ => ?_) (by first | k_memK | simp)))))
    refine ke_ne_ints (s := { s with heap := h₃, toks := tk₂ }) (ns := left) (ms := []) ⟨_, (N₃ (lf', listOf (List.toArray vl) nl) (by first | k_memK | simp)).1, rfl, nl, rfl⟩ ⟨_, (N₃ (Z, listOf #[] 0) (by first | k_memK | simp)).1, rfl, 0, rfl⟩ hIl .nil (by show A.units + 3 + 64 < cLine; omega) (wpAny_truthy_bool ?_)
    have N₃' : News s.heap L h₃ [(L + 1, oc), (lf', listOf (List.toArray vl) nl), (D, listOf (List.toArray vd) nd), (L + 3, o1), (L + 2, o2)] := fun p hp => N₃ p (.tail _ hp)
    clear N₃ l₃ N₂ F₂ hcl hlL
    by_cases hz : left = []
    · -- the loop ends
      subst hz
      simp only [decide_true, Bool.not_true, Bool.false_eq_true, if_false]
      refine wpAny_execs_cons (wpAny_Return_some (nameLoc F₃.ns hmD ?_))
      have e := N₃' (D, listOf (List.toArray vd) nd) (by first | k_memK | simp)
      refine hR h₃ tk₂ _ F₃.keep ?_
      have : ordered (lines.map Prod.snd) = some due := by
        rw [← hord]
        cases k <;> simp [ordLoop]
      rw [this]
      exact ⟨D, vd, rfl, e.2.2, ⟨nd, e.1⟩, hId⟩
    · simp only [decide_eq_false hz, Bool.not_false, if_true]
      have hcl : h₃.IsCell (L + 1) (some (.ref lf')) := Mine.News.cellIs N₃' (o := oc) (by first | k_memK | simp) dc
      have hlL : h₃.IsList lf' (List.toArray vl) := ⟨_, (N₃' (lf', listOf (List.toArray vl) nl) (by first | k_memK | simp)).1, rfl, nl, rfl⟩
      -- later = _law_ahead(lines, left)
      refine wpAny_execs_cons (wpAny_Assign_Name (Call_ (nameGlob (C.keeps F₃.keep) (v := .ref 125) rfl ?_)))
      refine callWith_K (K := KK w) C.X rfl (spliced_more (nameLoc (v := .ref ln) F₃.ns hm (spliced_more (nameCell (c := L + 1) rfl hcl (spliced_none ⟨C.X.keeps F₃.keep, wpAny_call ?_⟩)))))
      refine ahead_spec (s := { s with heap := h₃, toks := tk₂ }) (C.keeps F₃.keep) hh (by show A.depth + 1 < recursionLimit; omega) (by show A.units + 3 + 20 < cLine; omega) (hln.keeps F₃.keep) hlL hIl hsz hsum fun Da h₄ tk₄ va hDa hk₄ hpa hIa => ?_
      dsimp only
      obtain ⟨na, hpa⟩ := hpa
      have F₄ := F₃.keptAll hk₄
      have N₄ := newsAdd F₃ N₃' hk₄ hDa hpa
      have hDaL : LtN (L + 3) Da ∨ True := .inr trivial
      have hDan : Da ≠ L + 1 ∧ Da ≠ L + 2 ∧ Da ≠ L + 3 ∧ Da ≠ lf' ∧ Da ≠ D := by
        have nn : ∀ p ∈ [(L + 1, oc), (lf', listOf (List.toArray vl) nl), (D, listOf (List.toArray vd) nd), (L + 3, o1), (L + 2, o2)], Da ≠ p.1 := fun p hp e => by
          have hDa' : h₃.get? Da = none := hDa
          rw [e, (N₃' p hp).1] at hDa'; cases hDa'
        exact ⟨nn (L + 1, oc) (by first | k_memK | simp), nn (L + 2, o2) (by first | k_memK | simp), nn (L + 3, o1) (by first | k_memK | simp), nn (lf', listOf (List.toArray vl) nl) (by first | k_memK | simp), nn (D, listOf (List.toArray vd) nd) (by first | k_memK | simp)⟩
      refine stCellM (s := { s with heap := h₄, toks := tk₄ }) (c := L + 2) (o := o2) [(Da, listOf (List.toArray va) na), (L + 1, oc), (lf', listOf (List.toArray vl) nl), (D, listOf (List.toArray vd) nd), (L + 3, o1)] rfl F₄ N₄ (by first | k_memK | simp) d2 ?_ ?_ fun h₅ o2' F₅ N₅ d2' => ?_
      · k_allIn
      · intro p hp
        simp only [List.mem_cons, List.not_mem_nil, or_false] at hp
        rcases hp with rfl | rfl | rfl | rfl | rfl
        · exact hDan.2.1
        · exact neN (by omega)
        · exact neN (by omega)
        · exact neN (by omega)
        · exact neN (by omega)
      dsimp only
      clear N₄ F₄ hcl hlL
      -- free = [one for one in left if one not in later]
      have hc2 : h₅.IsCell (L + 2) (some (.ref Da)) := Mine.News.cellIs N₅ (o := o2') (by first | k_memK | simp) d2'
      have hcl : h₅.IsCell (L + 1) (some (.ref lf')) := Mine.News.cellIs N₅ (o := oc) (by first | k_memK | simp) dc
      have hlL : h₅.IsList lf' (List.toArray vl) := ⟨_, (N₅ (lf', listOf (List.toArray vl) nl) (by first | k_memK | simp)).1, rfl, nl, rfl⟩
      have hlA : h₅.IsList Da (List.toArray va) := ⟨_, (N₅ (Da, listOf (List.toArray va) na) (by first | k_memK | simp)).1, rfl, na, rfl⟩
      refine wpAny_execs_cons (wpAny_Assign_Name ?_)
      refine compR (s := { s with heap := h₅, toks := tk₄ }) (fun v => !intIn (aheadOf (lines.map Prod.snd) left) v) (fun v y => y = v) (fun _ _ _ => False) hh (cl := [("later", L + 2)]) rfl (by decide) rfl (by decide) rfl ?_
      refine nameCell (c := L + 1) rfl hcl ⟨lf', vl, rfl, hlL, by simp [sizeLine]; omega, ?_, ?_, ?_⟩
      · intro C' v s₃ m₃ E' hv F₃' hm₃
        obtain ⟨a, t, rfl⟩ := hIl.all v hv
        refine wpAny_tests_one (wpAny_isTrue_Compare1 (nameLoc (m := m₃) F₃'.ns hm₃ (nameCell (c := L + 2) rfl (cellKeeps hc2 F₃'.keep) ?_)))
        refine notInInts (F₃'.lst hlA) hIa (wpAny_truthy_bool ⟨?_, _, _, rfl, fun _ _ e => e⟩)
        rfl
      · intro C' v s₃ m₃ E' hv _ F₃' hm₃
        exact nameLoc (m := m₃) F₃'.ns hm₃ ⟨.inl rfl, _, _, rfl, fun _ _ e => e⟩
      intro Df h₆ tk₆ ys hDf hpf hP hlf6 hk₆
      have hys := pairedEq hP
      subst hys
      obtain ⟨nf, hpf⟩ := hpf
      dsimp only at hDf hk₆ ⊢
      have hIf : IntsAre (vl.filter fun v => !intIn (aheadOf (lines.map Prod.snd) left) v) (freeOf (lines.map Prod.snd) left) := Mine.IntsAre.filterIn _ _ (fun _ _ => rfl) hIl
      generalize hvf : (vl.filter fun v => !intIn (aheadOf (lines.map Prod.snd) left) v) = vf at hpf hIf hlf6
      have F₆ := F₅.keptAll hk₆
      have N₆ := newsAdd F₅ N₅ hk₆ hDf hpf
      have hDfn : Df ≠ L + 1 ∧ Df ≠ L + 2 ∧ Df ≠ L + 3 ∧ Df ≠ lf' ∧ Df ≠ D := by
        have nn : ∀ p ∈ [(L + 2, o2'), (Da, listOf (List.toArray va) na), (L + 1, oc), (lf', listOf (List.toArray vl) nl), (D, listOf (List.toArray vd) nd), (L + 3, o1)], Df ≠ p.1 := fun p hp e => by
          rw [e, (N₅ p hp).1] at hDf; cases hDf
        exact ⟨nn (L + 1, oc) (by first | k_memK | simp), nn (L + 2, o2') (by first | k_memK | simp), nn (L + 3, o1) (by first | k_memK | simp), nn (lf', listOf (List.toArray vl) nl) (by first | k_memK | simp), nn (D, listOf (List.toArray vd) nd) (by first | k_memK | simp)⟩
      refine stCellM (s := { s with heap := h₆, toks := tk₆ }) (c := L + 3) (o := o1) [(Df, listOf (List.toArray vf) nf), (L + 1, oc), (lf', listOf (List.toArray vl) nl), (D, listOf (List.toArray vd) nd), (L + 2, o2')] rfl F₆ N₆ (by first | k_memK | simp) d1 ?_ ?_ fun h₇ o1' F₇ N₇ d1' => ?_
      · k_allIn
      · intro p hp
        simp only [List.mem_cons, List.not_mem_nil, or_false] at hp
        rcases hp with rfl | rfl | rfl | rfl | rfl
        · exact hDfn.2.2.1
        · exact neN (by omega)
        · exact neN (by omega)
        · exact neN (by omega)
        · exact neN (by omega)
      dsimp only
      clear N₆ F₆ hcl hlL hc2 hlA N₅ F₅ hDf hk₆ hP
      -- if free == []: return None
      have hc3 : h₇.IsCell (L + 3) (some (.ref Df)) := Mine.News.cellIs N₇ (o := o1') (by first | k_memK | simp) d1'
      refine wpAny_execs_cons (wpAny_If (wpAny_isTrue_Compare1 (nameCell (c := L + 3) rfl hc3 (List_ (spliced_none (newList_K (s := { s with heap := h₇, toks := tk₆ }) F₇ N₇ (fun Z₂ h₈ F₈ N₈ l₈ => ?_) (by first | k_memK | simp)))))))
      refine ke_eq_ints (s := { s with heap := h₈, toks := tk₆ }) (ns := freeOf (lines.map Prod.snd) left) (ms := []) ⟨_, (N₈ (Df, listOf (List.toArray vf) nf) (by first | k_memK | simp)).1, rfl, nf, rfl⟩ ⟨_, (N₈ (Z₂, listOf #[] 0) (by first | k_memK | simp)).1, rfl, 0, rfl⟩ hIf .nil (by show A.units + 3 + 64 < cLine; omega) (wpAny_truthy_bool ?_)
      have N₈' : News s.heap L h₈ [(L + 3, o1'), (Df, listOf (List.toArray vf) nf), (L + 1, oc), (lf', listOf (List.toArray vl) nl), (D, listOf (List.toArray vd) nd), (L + 2, o2')] := fun p hp => N₈ p (.tail _ hp)
      clear N₈ l₈ N₇ F₇ hc3
      obtain ⟨k, rfl⟩ : ∃ k', k = k' + 1 := ⟨k - 1, by
        have : left.length ≠ 0 := fun e => hz (List.length_eq_zero_iff.mp e)
        omega⟩
      by_cases hfr : freeOf (lines.map Prod.snd) left = []
      · simp only [hfr, decide_true, if_true]
        refine wpAny_execs_cons (wpAny_Return_some (wpAny_pure ?_))
        refine hR h₈ tk₆ _ F₈.keep ?_
        have : ordered (lines.map Prod.snd) = none := by
          rw [← hord]
          simp [ordLoop, hz, hfr]
        rw [this]
      · simp only [decide_eq_false hfr, Bool.false_eq_true, if_false]
        refine wpAny_execs_nil ?_
        dsimp only
        obtain ⟨f, fr, hfe⟩ : ∃ f fr, freeOf (lines.map Prod.snd) left = f :: fr := by
          cases e : freeOf (lines.map Prod.snd) left with
          | nil => exact absurd e hfr
          | cons f fr => exact ⟨f, fr, rfl⟩
        rw [hfe] at hIf
        obtain ⟨tf, vf', hvfe, _⟩ := hIf.cons_inv
        have hf0 : vf[0]? = some (.int f tf) := by rw [hvfe]; rfl
        have hfl : f ∈ left := by
          have : f ∈ freeOf (lines.map Prod.snd) left := by rw [hfe]; exact .head _
          exact (List.mem_filter.mp this).1
        -- due.append(free[0])
        have hc3 : h₈.IsCell (L + 3) (some (.ref Df)) := Mine.News.cellIs N₈' (o := o1') (by first | k_memK | simp) d1'
        have hlF : h₈.IsList Df (List.toArray vf) := ⟨_, (N₈' (Df, listOf (List.toArray vf) nf) (by first | k_memK | simp)).1, rfl, nf, rfl⟩
        refine wpAny_execs_cons (appendStmt (nameLoc F₈.ns hmD ⟨D, _, _, rfl, (N₈' (D, listOf (List.toArray vd) nd) (by first | k_memK | simp)).1, subK (k := 0) (nameCell (c := L + 3) rfl hc3 ⟨Df, vf, _, rfl, hlF, hf0, fun tk₉ => ?_⟩)⟩))
        refine ⟨_, _, (N₈' (D, listOf (List.toArray vd) nd) (by first | k_memK | simp)).1, by simp only [List.size_toArray]; simp [sizeLine]; omega, fun h₉ hs₉ ho₉ => ?_⟩
        have eD := N₈' (D, listOf (List.toArray vd) nd) (by first | k_memK | simp)
        have F₉ := F₈.change hs₉ eD.2.1 eD.2.2
        have N₉ := newsPut N₈' (c := D) (o := listOf (List.toArray vd) nd) (by first | k_memK | simp) [(L + 3, o1'), (Df, listOf (List.toArray vf) nf), (L + 1, oc), (lf', listOf (List.toArray vl) nl), (L + 2, o2')] (by
            intro p hp
            simp only [List.mem_cons, List.not_mem_nil, or_false] at hp ⊢
            rcases hp with h | h | h | h | h <;> simp [h]) (by
            intro p hp
            simp only [List.mem_cons, List.not_mem_nil, or_false] at hp
            rcases hp with rfl | rfl | rfl | rfl | rfl
            · exact neN (by omega)
            · exact hDfn.2.2.2.2
            · exact neN (by omega)
            · exact hne
            · exact neN (by omega)) hs₉ ho₉
        clear N₈' F₈ hc3 hlF hs₉ ho₉ eD
        dsimp only
        have hc3 : h₉.IsCell (L + 3) (some (.ref Df)) := Mine.News.cellIs N₉ (o := o1') (by first | k_memK | simp) d1'
        have hlF : h₉.IsList Df (List.toArray vf) := ⟨_, (N₉ (Df, listOf (List.toArray vf) nf) (by first | k_memK | simp)).1, rfl, nf, rfl⟩
        have hcl : h₉.IsCell (L + 1) (some (.ref lf')) := Mine.News.cellIs N₉ (o := oc) (by first | k_memK | simp) dc
        have hlL : h₉.IsList lf' (List.toArray vl) := ⟨_, (N₉ (lf', listOf (List.toArray vl) nl) (by first | k_memK | simp)).1, rfl, nl, rfl⟩
        -- left = [one for one in left if one != free[0]]
        refine wpAny_execs_cons (wpAny_Assign_Name ?_)
        refine compR (s := { s with heap := h₉, toks := tk₉ }) (fun v => !hitsInt f v) (fun v y => y = v) (fun _ _ _ => False) hh (cl := [("free", L + 3)]) rfl (by decide) rfl (by decide) rfl ?_
        refine nameCell (c := L + 1) rfl hcl ⟨lf', vl, rfl, hlL, by simp [sizeLine]; omega, ?_, ?_, ?_⟩
        · intro C' v s₃ m₃ E' hv F₃' hm₃
          obtain ⟨a, t, rfl⟩ := hIl.all v hv
          refine wpAny_tests_one (wpAny_isTrue_Compare1 (nameLoc (m := m₃) F₃'.ns hm₃ (subK (k := 0) (nameCell (c := L + 3) rfl (cellKeeps hc3 F₃'.keep) ⟨Df, vf, _, rfl, F₃'.lst hlF, hf0, fun tk₀ => ?_⟩))))
          exact ne_int (wpAny_truthy_bool ⟨rfl, keepsTok⟩)
        · intro C' v s₃ m₃ E' hv _ F₃' hm₃
          exact nameLoc (m := m₃) F₃'.ns hm₃ ⟨.inl rfl, _, _, rfl, fun _ _ e => e⟩
        intro Dn h₁₀ tk₁₀ ys hDn hpn hP hln hk₁₀
        have hys := pairedEq hP
        subst hys
        obtain ⟨nn, hpn⟩ := hpn
        dsimp only at hDn hk₁₀ ⊢
        have hIn : IntsAre (vl.filter fun v => !hitsInt f v) (left.filter fun x => !decide (x = f)) := Mine.IntsAre.filterIn _ _ (fun a t => by simp only [hitsInt]; congr 1) hIl
        generalize hvn : (vl.filter fun v => !hitsInt f v) = vn at hpn hIn hln
        have F₁₀ := F₉.keptAll hk₁₀
        have N₁₀ := newsAdd F₉ N₉ hk₁₀ hDn hpn
        have hDnn : Dn ≠ L + 1 ∧ Dn ≠ L + 2 ∧ Dn ≠ L + 3 ∧ Dn ≠ D := by
          have nn : ∀ p ∈ [(D, listOf ((List.toArray vd).push (.int f tf)) (nd + 1)), (L + 3, o1'), (Df, listOf (List.toArray vf) nf), (L + 1, oc), (lf', listOf (List.toArray vl) nl), (L + 2, o2')], Dn ≠ p.1 := fun p hp e => by
            rw [e, (N₉ p hp).1] at hDn; cases hDn
          exact ⟨nn (L + 1, oc) (by first | k_memK | simp), nn (L + 2, o2') (by first | k_memK | simp), nn (L + 3, o1') (by first | k_memK | simp), nn (D, listOf ((List.toArray vd).push (.int f tf)) (nd + 1)) (by first | k_memK | simp)⟩
        refine stCellM (s := { s with heap := h₁₀, toks := tk₁₀ }) (c := L + 1) (o := oc) [(Dn, listOf (List.toArray vn) nn), (D, listOf ((List.toArray vd).push (.int f tf)) (nd + 1)), (L + 3, o1'), (L + 2, o2')] rfl F₁₀ N₁₀ (by first | k_memK | simp) dc ?_ ?_ fun h₁₁ oc' F₁₁ N₁₁ dc' => ?_
        · k_allIn
        · intro p hp
          simp only [List.mem_cons, List.not_mem_nil, or_false] at hp
          rcases hp with rfl | rfl | rfl | rfl
          · exact hDnn.1
          · exact neN (by omega)
          · exact neN (by omega)
          · exact neN (by omega)
        dsimp only
        refine wpAny_execs_nil ?_
        have hlt : (left.filter fun x => !decide (x = f)).length < left.length := by
          refine Nat.lt_of_le_of_ne (List.length_filter_le _ _) fun e => ?_
          have := List.length_filter_eq_length_iff.mp e f hfl
          simp at this
        refine ⟨k, h₁₁, tk₁₀, _, [(L + 1, oc'), (Dn, listOf (List.toArray vn) nn), (D, listOf (List.toArray (vd ++ [.int f tf])) (nd + 1)), (L + 3, o1'), (L + 2, o2')], Nat.lt_succ_self _, rfl, F₁₁, ?_, hm, hmD, oc', o1', o2', Dn, vn, nn, vd ++ [.int f tf], nd + 1, left.filter (fun x => !decide (x = f)), due ++ [f], _, _, rfl, dc', d1', d2', hIn, hId.append (.cons f tf .nil), ⟨hDnn.1, hDnn.2.1, hDnn.2.2.1⟩, hLD, hDnn.2.2.2, by omega, by rw [List.length_append]; simp only [List.length_singleton]; omega, ?_⟩
        · have e : (List.toArray vd).push (.int f tf) = List.toArray (vd ++ [.int f tf]) := by simp
          rw [← e]
          exact N₁₁
        · rw [← hord]
          simp [ordLoop, hz, hfe]
end Mine

-- MExc
namespace Mine
open PySem.Calls PySem.Challenge
theorem cls63 {w : World} {h : Heap} (X : (KK w).In h) : ∃ nm q bs hdct sn sub ab col dd k0 k1 k2 k3 k5, h.get? 63 = some (excClassObj nm q 63 62 bs [.ref 51, .ref 31, .type "Exception", .type "BaseException", .type "object"] hdct sn sub ab col dd k0 k1 k2 k3 k5 "Exception.__new__") :=
  ⟨_, _, _, _, _, _, _, _, _, _, _, _, _, _, X 63 _ rfl⟩
abbrev excRec (t : Addr) (dd : Option Addr) : Obj := { cls := .ref 63, dict := dd, data := .fields #[.ref t, .none, .none, .none, .bool false, .none] }
abbrev argsTup (args : List Value) : Obj := { cls := .type "tuple", data := .seq args.toArray }
section
variable {w : World} {A : Around} {R : Result → Shared → Prop} {h : Heap} {g : Array GenState} {d : Drawn} {t : Nat} {os : OsState}

theorem new63 {rest : List Value} (X : (KK w).In h) (hrest : rest.length ≤ 100)
    (hq : R (.ok (.ret (.ref (h.objs.size + 1)))) ⟨(h.push (argsTup rest)).push (excRec h.objs.size none), g, d, t, os⟩) :
    codeAny (model rw_pq0388_01.row.prog w) A (.call (.builtin "Exception.__new__") ⟨.ref 63 :: rest, []⟩) R ⟨h, g, d, t, os⟩ := by
  obtain ⟨nm, q, bs, hdct, sn, sub, ab, col, dd, k0, k1, k2, k3, k5, hC⟩ := cls63 X
  have Fn := PySem.F.excBase_Exception
  have hcE : ([Value.ref 63, .ref 51, .ref 31, .type "Exception", .type "BaseException", .type "object"]).contains (.type "Exception") = true := by rfl
  have hcA : ([Value.ref 63, .ref 51, .ref 31, .type "Exception", .type "BaseException", .type "object"]).contains (.type "AttributeError") = false := by rfl
  have hcN : ([Value.ref 63, .ref 51, .ref 31, .type "Exception", .type "BaseException", .type "object"]).contains (.type "NameError") = false := by rfl
  have hends := Fn.ends
  have hstar := Fn.noStar
  refine codeAny_call_builtin_code (Code.quiet_builtin _ Fn.quiet) ?_
  · simp only [checkBuiltinCall, Fn.newKind, Fn.newSplit, Fn.newRow]
    repeat (first | refine wpAny_loadPart_at hC ?_ | (refine wpAny_isSubtype_exc hC ?_; rw [hcE]) | refine wpAny_staticBase_exc hC ?_ | refine wpAny_madeBy_exc hC ?_ | simp only [bne_self_eq_false, Bool.false_eq_true, if_false] | wp_step)
    have hsz : rest.length ≤ sizeLine := by simp [sizeLine]; omega
    refine codeAny_builtinAt Fn.entry ?_
    unfold Builtin.«BaseException.__new__»
    refine PySem.wpAt_bind ?_
    show PySem.wpAt _ _ _ (stack >>= _) _ _ _
    refine PySem.wpAt_bind (PySem.wpAt_stack fun p below => PySem.wpAt_of_wpAny ?_)
    wp_walk
    refine PySem.wpAt_of_wpAny ?_
    rw [Fn.owner]
    repeat (first | with_reducible refine wpAny_madeHere_exc Fn.canon hC ?_ | with_reducible refine wpAny_loadPart_at hC ?_ | (with_reducible refine wpAny_isSubtype_exc hC ?_; first | rw [hcE] | rw [hcA] | rw [hcN]) | wp_step)
    show R _ _
    rw [Heap.size_push]
    exact hq

theorem make63 {rest : List Value} (X : (KK w).In h) (hrest : rest.length ≤ 100)
    (hq : codeAny (model rw_pq0388_01.row.prog w) (A.under (.builtin "type.__call__" ⟨.ref 63 :: rest, []⟩)) (.call (.ref 48) ⟨.ref (h.objs.size + 1) :: rest, []⟩) (InitBack (h.objs.size + 1) R) ⟨(h.push (argsTup rest)).push (excRec h.objs.size none), g, d, t, os⟩) :
    codeAny (model rw_pq0388_01.row.prog w) A (.call (.ref 63) ⟨rest, []⟩) R ⟨h, g, d, t, os⟩ := by
  obtain ⟨nm, q, bs, hdct, sn, sub, ab, col, dd, k0, k1, k2, k3, k5, hC⟩ := cls63 X
  have call : Looks (model rw_pq0388_01.row.prog w) h (specialOf (.ref 63) "__call__") (some (.builtin "type.__call__")) := looks_specialIn X (by rfl)
  have typ : Looks (model rw_pq0388_01.row.prog w) h (isInstance (.ref 63) (.type "type")) true := looks_instIn X (by rfl)
  have self : Looks (model rw_pq0388_01.row.prog w) h (isSubtype (.ref 63) (.ref 63)) true := looks_mroIn X (by rfl)
  have hi : Looks (model rw_pq0388_01.row.prog w) h (typeLookup (.ref 63) "__init__") (some (.ref 48)) := looks_findIn X (by rfl)
  have hb : ∀ self, Looks (model rw_pq0388_01.row.prog w) h (bindSpecial (.ref 48) self) (.ref 48, [self]) := fun self => bind_fn X self (by rfl)
  have made : Looks (model rw_pq0388_01.row.prog w) h (Bind.madeBy (.ref 63)) (some "Exception.__new__") := fun A Q E s k q => by
    obtain ⟨hh, g, d, t, os⟩ := s
    exact wpAny_madeBy_exc (k _ _ hC) q
  refine codeAny_of_tree ?_
  show wpAny _ _ (callAny (.ref 63) _) _ _ _
  refine nd_load hC ?_
  show wpAny _ _ (callAny.viaDunder (.ref 63) _) _ _ _
  unfold callAny.viaDunder
  refine wpAny_bind (call.at ?_)
  dsimp only
  rw [tc_bind]
  refine wpAny_bind (wpAny_pure (wpAny_bind (wpAny_pure ?_)))
  refine wpAny_pure (a := Fin.again (.call (.builtin "type.__call__") ⟨.ref 63 :: rest, []⟩)) (And.intro rfl ?_)
  refine codeAny_call_builtin_at (Code.quiet_builtin _ (by decide +kernel)) entry_typeCall (check_slot tc_kind tc_split typ (tc_args _ _ _) ?_)
  unfold Builtin.«type.__call__»
  have hm : Looks (model rw_pq0388_01.row.prog w) h (mroOf (.ref 63)) [.ref 63, .ref 51, .ref 31, .type "Exception", .type "BaseException", .type "object"] := ((Looks.ld (part := none) hC).andThen .now).andThen .now
  repeat (first | with_reducible refine wpAny_call ?_ | lk)
  refine new63 X hrest ?_
  have k : ∀ b o, h.get? b = some o → ((h.push (argsTup rest)).push (excRec h.objs.size none)).get? b = some o := fun b o e => Heap.get?_push_of_some _ (Heap.get?_push_of_some _ e)
  have hx : ((h.push (argsTup rest)).push (excRec h.objs.size none)).get? (h.objs.size + 1) = some (excRec h.objs.size none) := by heap_get
  have t1 : Looks (model rw_pq0388_01.row.prog w) ((h.push (argsTup rest)).push (excRec h.objs.size none)) (typeOf (.ref (h.objs.size + 1))) (.ref 63) := (Looks.ld hx).andThen .now
  have s1 := self.keeps k
  have i1 := hi.keeps k
  have b1 := (hb (.ref (h.objs.size + 1))).keeps k
  unfold isInstance callSpecial? specialOf
  repeat (first | with_reducible refine wpAny_call ?_ | lk)
  refine codeAny_mono hq fun r s' z => ?_
  rcases r with e | (v | _ | _ | _) <;> first | exact z | exact z.elim | skip
  obtain ⟨rfl, z⟩ := z
  exact wpAny_pure (wpAny_pure z)
end
end Mine

-- MExc2
namespace Mine
open PySem.Calls PySem.Challenge Builtin Builtin.ObjectAttr
theorem refuse63 (self : Value) : refuseLoop self "__setattr__" [.ref 63, .ref 51, .ref 31, .type "Exception", .type "BaseException", .type "object"] = pure () := by
  rw [refuseLoop_ref, refuseLoop_ref, refuseLoop_ref]
  exact PySem.F.store_Exception.passes self
section
variable {w : World} {A : Around} {E : Value → Shared → Prop} {R : Result → Shared → Prop} {s : Shared}

theorem inst63n {h : Heap} {x t : Addr} (hx : h.get? x = some (excRec t none)) : InstAt h x (excRec t none) 63 none := ⟨hx, rfl, rfl, trivial⟩
theorem inst63s {h : Heap} {x t dx : Addr} {od : Obj} (hx : h.get? x = some (excRec t (some dx))) (hd : h.get? dx = some od) : InstAt h x (excRec t (some dx)) 63 (some od) := ⟨hx, rfl, rfl, hd⟩

theorem osa63 {x : Addr} {ox : Obj} {od : Option Obj} {name : Str} {tk : Tok} {v : Value} (X : (KK w).In s.heap) (I : InstAt s.heap x ox 63 od) (ht : findIn (KK w) (.ref 63) name = some none)
    (h : wpAny (model rw_pq0388_01.row.prog w) A.in1 (storeInOwnDict (.ref x) (.ref 63) (.str name tk) name v false)
      (fun fin s' => match fin with | .done f => R (.ok f) s' | .again c' => c'.quiet = true ∧ codeAny (model rw_pq0388_01.row.prog w) A c' R s') (fun e s' => R (.error e) s') s) :
    codeAny (model rw_pq0388_01.row.prog w) A (.call (.builtin "object.__setattr__") ⟨[.ref x, .str name tk, v], []⟩) R s := by
  have SF := PySem.F.store_object
  have sub : Looks (model rw_pq0388_01.row.prog w) s.heap (isInstance (.ref x) (.type "object")) true := I.type.andThen (looks_mroIn X (by rfl))
  refine codeAny_call_builtin SF.slot.plain SF.entry (@check_slot (model rw_pq0388_01.row.prog w) _ _ s "object.__setattr__" "object" "__setattr__" (.ref x) [.str name tk, v] [] _ SF.kind SF.split sub (SF.args (.ref x) (.str name tk) v) ?_)
  have hm : Looks (model rw_pq0388_01.row.prog w) s.heap (mroOf (.ref 63)) [.ref 63, .ref 51, .ref 31, .type "Exception", .type "BaseException", .type "object"] := (looks_clsIn X (by rfl)).andThen .now
  rw [osa_eq, refuse_eq]
  refine wpAny_bind (wpAny_bind (I.type.here (wpAny_bind (hm.here ?_))))
  rw [refuse63]
  exact wpAny_pure (wpAny_bind (I.type.here (wpAny_bind ((looks_findIn X ht).here (wpAny_bind (wpAny_pure h))))))

theorem storeIn {dx : Addr} {es : List DictEntry} {n : Nat} {name : Str} {tk : Tok} {v : Value} {Q : Fin → Shared → Prop} (D : s.heap.get? dx = some (dictOf es n)) (hes : es.all (fun e => match e.key with | .str _ _ => true | _ => false) = true) (hl : es.length ≤ 1000)
    (h : ∀ h' key, Heap.SameBut dx s.heap h' → h'.get? dx = some (dictOf (putL name (PyData.keyHash w.params name) (.str name key) v es) (putN name es n)) → Q (.done (.ret .none)) { s with heap := h', toks := s.toks + 1 }) :
    wpAny (model rw_pq0388_01.row.prog w) A (storeInDict dx (.str name tk) name v) Q E s := by
  unfold storeInDict newKeyGuard
  refine wpAny_bind (wpAny_pure (wpAny_bind ?_))
  unfold nsSet
  refine wpAny_bind (wpAny_bind (wpAny_askSetting (wpAny_pure (wpAny_bind (wpAny_mkText (wpAny_bind (wpAny_loadPart D ?_)))))))
  dsimp only
  have c : (!es.toArray.any (·.key.isStr name) && es.toArray.any (·.refKey)) = false := by
    have : es.toArray.any (·.refKey) = false := by
      rw [← Array.any_toList, List.any_eq_false]
      intro e he
      have := List.all_eq_true.mp hes e he
      obtain ⟨hh, key, val⟩ := e
      cases key <;> first | (cases this; done) | simp [DictEntry.refKey]
    rw [this, Bool.and_false]
  rw [aRefKeyMayBeTheName_at, c]
  refine wpAny_updatePart D ?_
  have D' : (s.heap.update dx (Obj.putName name (PyData.keyHash w.params name) (.str name s.toks) v)).get? dx = some (dictOf (putL name (PyData.keyHash w.params name) (.str name s.toks) v es) (putN name es n)) := by
    rw [Heap.get?_update_self _ D (by rw [putName_dict]; rfl), putName_dict]
  have hlen : (putL name (PyData.keyHash w.params name) (.str name s.toks) v es).length ≤ es.length + 1 := by
    clear D' c D hes hl h
    induction es with
    | nil => simp [putL]
    | cons e r ih =>
      simp only [putL]
      split
      · simp
      · simp only [List.length_cons]; omega
  refine wpAny_bind (wpAny_lookBehind D' (pastItsLine_dict (by rw [List.size_toArray, sizeLine_eq]; omega)) ?_)
  exact wpAny_pure (h _ _ (Heap.SameBut.update ..) D')

theorem setExc0 {x t : Addr} {name : Str} {v : Value} {Q : Unit → Shared → Prop} (X : (KK w).In s.heap) (hx : s.heap.get? x = some (excRec t none)) (ht : findIn (KK w) (.ref 63) name = some none)
    (h : ∀ h' tk key, (∀ b o, b ≠ x → s.heap.get? b = some o → h'.get? b = some o) → h'.get? x = some (excRec t (some s.heap.objs.size)) →
      h'.get? s.heap.objs.size = some (dictOf [⟨PyData.keyHash w.params name, .str name key, v⟩] 1) → Q () { s with heap := h', toks := tk }) :
    wpAny (model rw_pq0388_01.row.prog w) A (setAttr (.ref x) name v) Q E s := by
  have I := inst63n hx
  refine set_plain X I (by rfl) (osa63 (s := { s with toks := s.toks + 1 }) X I ht ?_)
  have hx₁ : (s.heap.push { cls := .type "dict", data := .dict #[] }).get? x = some (excRec t none) := Heap.get?_push_of_some _ hx
  have hxs : x ≠ s.heap.objs.size := Nat.ne_of_lt (Heap.lt_size hx)
  have hc : Looks (model rw_pq0388_01.row.prog w) s.heap (classData 63) _ := looks_clsIn X rfl
  refine wpAny_bind (wpAny_pure (wpAny_bind (wpAny_bind (wpAny_loadPart hx (wpAny_bind (hc _ _ _ _ (fun _ _ e => e) ?_))))))
  refine wpAny_bind (wpAny_alloc' (wpAny_bind (wpAny_update' hx₁ (wpAny_pure ?_))))
  have hgd : ((s.heap.push { cls := .type "dict", data := .dict #[] }).update x fun o => { o with dict := some s.heap.objs.size }).get? s.heap.objs.size = some (dictOf [] 0) :=
    (Heap.get?_update_ne _ _ _ _ hxs.symm).trans (Heap.get?_push_at rfl rfl)
  have hgx : ((s.heap.push { cls := .type "dict", data := .dict #[] }).update x fun o => { o with dict := some s.heap.objs.size }).get? x = some (excRec t (some s.heap.objs.size)) := Heap.get?_update_self _ hx₁ rfl
  refine storeIn (s := { s with heap := _, toks := s.toks + 1 }) hgd rfl (by first | k_memK | simp) fun h' key hs hd => ?_
  refine h h' _ key (fun b o hb e => ?_) ?_ hd
  · have hbs : b ≠ s.heap.objs.size := Nat.ne_of_lt (Heap.lt_size e)
    exact (hs.2 b hbs).trans ((Heap.get?_update_ne _ _ _ _ hb).trans (Heap.get?_push_of_some _ e))
  · exact (hs.2 x hxs).trans hgx

theorem setExc1 {x t dx : Addr} {es : List DictEntry} {n : Nat} {name : Str} {v : Value} {Q : Unit → Shared → Prop} (X : (KK w).In s.heap) (hx : s.heap.get? x = some (excRec t (some dx))) (D : s.heap.get? dx = some (dictOf es n)) (ht : findIn (KK w) (.ref 63) name = some none)
    (hes : es.all (fun e => match e.key with | .str _ _ => true | _ => false) = true) (hl : es.length ≤ 1000)
    (h : ∀ h' tk key, Heap.SameBut dx s.heap h' → h'.get? dx = some (dictOf (putL name (PyData.keyHash w.params name) (.str name key) v es) (putN name es n)) → Q () { s with heap := h', toks := tk }) :
    wpAny (model rw_pq0388_01.row.prog w) A (setAttr (.ref x) name v) Q E s := by
  have I := inst63s hx D
  refine set_plain X I (by rfl) (osa63 (s := { s with toks := s.toks + 1 }) X I ht ?_)
  have hc : Looks (model rw_pq0388_01.row.prog w) s.heap (classData 63) _ := looks_clsIn X rfl
  refine wpAny_bind (wpAny_pure (wpAny_bind (wpAny_bind (wpAny_loadPart hx (wpAny_bind (hc _ _ _ _ (fun _ _ e => e) ?_))))))
  refine wpAny_pure (a := some dx) ?_
  exact storeIn (s := { s with toks := s.toks + 1 }) D hes hl fun h' key hs hd => h h' _ key hs hd
end
end Mine

-- MExc3
namespace Mine
open PySem.Calls PySem.Challenge
section
variable {w : World} {A : Around} {R : Result → Shared → Prop} {h : Heap} {g : Array GenState} {d : Drawn} {t : Nat} {os : OsState}
theorem excInit {e t0 : Addr} {word : Value} (X : (KK w).In h) (hx : h.get? e = some (excRec t0 none))
    (hR : ∀ h' t', (∀ b o, b ≠ e → h.get? b = some o → h'.get? b = some o) → h'.get? e = some (excRec t' none) → R (.ok (.ret .none)) ⟨h', g, d, t, os⟩) :
    codeAny (model rw_pq0388_01.row.prog w) A (.call (.builtin "Exception.__init__") ⟨[.ref e, word], []⟩) R ⟨h, g, d, t, os⟩ := by
  have F := PySem.F.excBase_Exception
  obtain ⟨nm, q, bs, hdct, sn, sub, ab, col, dd, k0, k1, k2, k3, k5, hC⟩ := cls63 X
  have hcB : ([Value.ref 63, .ref 51, .ref 31, .type "Exception", .type "BaseException", .type "object"]).contains (.type "Exception") = true := by rfl
  have hshort := F.noStar
  refine codeAny_call_builtin F.init.plain F.initEntry ?_
  simp only [checkBuiltinCall, F.initKind, F.initSplit, F.initRow]
  repeat (first | with_reducible refine wpAny_loadPart_at hx ?_ | with_reducible refine wpAny_loadPart_at hC ?_ | (with_reducible refine wpAny_isSubtype_exc hC ?_; rw [hcB]) | wp_step)
  have hxs : e ≠ h.objs.size := Nat.ne_of_lt (Heap.lt_size hx)
  refine hR _ h.objs.size (fun b o hb e' => ?_) ?_
  · rw [Heap.get?_update_other _ _ (Ne.symm hb)]
    exact Heap.get?_push_of_some _ e'
  · rw [Heap.get?_update_self _ (Heap.get?_push_of_some _ hx) rfl]
    rfl

theorem staysBut_one {e : Addr} {h h' : Heap} (k : ∀ b o, b ≠ e → h.get? b = some o → h'.get? b = some o) : StaysBut [e] h h' := fun b o hb q => k b o (fun z => hb (by simp [z])) q
end
end Mine

-- MExc4
namespace Mine
open PySem.Calls PySem.Challenge
theorem e1 {w : World} : findCls (KK w) (.type "Exception") (.type "type") "__init__" = some (.val (.builtin "Exception.__init__")) := by kernel_rfl
theorem e4 : bootBuiltins "Exception" = some (.type "Exception") := by kernel_rfl
theorem e5 {w : World} : findIn (KK w) (.ref 63) "word" = some none := by kernel_rfl
theorem e6 {w : World} : findIn (KK w) (.ref 63) "line" = some none := by kernel_rfl
theorem e3 : typeOf (.type "Exception") = pure (.type "type") := by kernel_rfl
section
variable {w : World} {A : Around} {R : Result → Shared → Prop} {s : Shared}
theorem init28 {e t0 : Addr} {word : Value} (C : Cx w s.heap) (hh : A.handled = none) (hdp : A.depth < recursionLimit) (hx : s.heap.get? e = some (excRec t0 none)) (hnb : (KK w).lookup e = none)
    (hR : ∀ h' tk t' dx key, StaysBut [e] s.heap h' → h'.get? e = some (excRec t' (some dx)) → s.heap.get? dx = none → h'.get? dx = some (dictOf [⟨PyData.keyHash w.params "word", .str "word" key, word⟩] 1) → R (.ok (.ret .none)) { s with heap := h', toks := tk }) :
    codeAny (model rw_pq0388_01.row.prog w) A (.call (.ref 28) ⟨[.ref e, word], []⟩) R s := by
  refine enterP C.lim (C.X 28 _ rfl) rfl (codeRec_of C.X rfl) hdp (BindsTo.of_eq rfl) (locs rfl) ?_ (by decide)
  intro L h₁ tk F hL
  refine wpAny_noRaise ?_
  have up : ∀ h, (∀ b o, b ≠ e → h₁.get? b = some o → h.get? b = some o) → (KK w).In h := fun h k a o q => k a o (fun z => by rw [z, hnb] at q; cases q) (C.X.keeps F.keep a o q)
  have hLe : L ≠ e := fun z => by
    have := ltS hx
    rw [← z, hL] at this
    exact Nat.lt_irrefl _ this
  refine wpAny_execs_cons (wpAny_Expr (MethodCall_ ?_) rfl rfl)
  refine nameBuiltin (C.keeps F.keep) (v := .type "Exception") rfl e4 ?_
  refine method_type F C.X e3 (by decide +kernel) (v := .builtin "Exception.__init__") e1 (by decide +kernel) ?_
  refine callWith_method1 (spliced_more (nameLoc (v := .ref e) F.ns rfl (spliced_more (nameLoc (v := word) F.ns rfl (spliced_none (wpAny_call ?_))))))
  refine excInit (C.X.keeps F.keep) (F.keep _ _ hx) fun h₂ t' hk₂ hx₂ => ?_
  dsimp only
  have hn₂ := F.ns.at' fun o q => hk₂ _ o hLe q
  refine wpAny_execs_cons (plainObj_wpAny_Assign_Attribute ?_)
  refine nameLoc (v := word) hn₂ rfl (nameLoc (v := .ref e) hn₂ rfl ?_)
  refine setExc0 (s := { s with heap := h₂, toks := _ }) (up h₂ hk₂) hx₂ e5 fun h₃ tk₃ key hk₃ hx₃ hd₃ => ?_
  refine wpAny_execs_nil ?_
  refine hR h₃ tk₃ t' _ key (staysBut_one fun b o hb q => hk₃ b o hb (hk₂ b o hb (F.keep b o q))) hx₃ ?_ hd₃
  cases q : s.heap.get? h₂.objs.size with
  | none => rfl
  | some o =>
    have hne : h₂.objs.size ≠ e := Nat.ne_of_gt (ltS hx₂)
    exact absurd (ltS (hk₂ _ o hne (F.keep _ o q))) (Nat.lt_irrefl _)
end
end Mine

-- MExc5
namespace Mine
open PySem.Calls PySem.Challenge
theorem e7 {w : World} : findCls (KK w) (.ref 31) (.type "type") "__init__" = some (.val (.ref 28)) := by kernel_rfl
theorem e8 {w : World} : readsIn (KK w) 31 (.type "type") = true := by kernel_rfl
theorem e9 {w : World} : specialIn (KK w) (.ref 31) "__getattribute__" = some (some (.builtin "type.__getattribute__")) := by kernel_rfl
section
variable {w : World} {A : Around} {R : Result → Shared → Prop} {s : Shared}
theorem init48 {e t0 : Addr} {word line : Value} (C : Cx w s.heap) (hh : A.handled = none) (hdp : A.depth + 5 < recursionLimit) (hx : s.heap.get? e = some (excRec t0 none)) (hnb : (KK w).lookup e = none)
    (hR : ∀ h' tk t' dx es n, StaysBut [e] s.heap h' → h'.get? e = some (excRec t' (some dx)) → s.heap.get? dx = none → h'.get? dx = some (dictOf es n) → getL "line" es = some (some line) → R (.ok (.ret .none)) { s with heap := h', toks := tk }) :
    codeAny (model rw_pq0388_01.row.prog w) A (.call (.ref 48) ⟨[.ref e, word, line], []⟩) R s := by
  refine enterP C.lim (C.X 48 _ rfl) rfl (codeRec_of C.X rfl) (by omega) (BindsTo.of_eq rfl) (locs rfl) ?_ (by decide)
  intro L h₁ tk F hL
  refine wpAny_noRaise ?_
  have hLe : L ≠ e := fun z => by
    have := ltS hx
    rw [← z, hL] at this
    exact Nat.lt_irrefl _ this
  refine wpAny_execs_cons (wpAny_Expr (MethodCall_ ?_) rfl rfl)
  refine nameGlob (C.keeps F.keep) (v := .ref 31) rfl ?_
  refine method_cls (C.X.keeps F.keep) e9 (cls_value (v := .ref 28) (C.X.keeps F.keep) e8 e7 rfl ?_)
  refine callWith_K (K := KK w) C.X rfl (spliced_more (nameLoc (v := .ref e) F.ns rfl (spliced_more (nameLoc (v := word) F.ns rfl (spliced_none ⟨C.X.keeps F.keep, wpAny_call ?_⟩)))))
  refine init28 (C.keeps F.keep) hh (by show A.depth + 1 < recursionLimit; omega) (F.keep _ _ hx) hnb fun h₂ tk₂ t' dx key hk₂ hx₂ hdx hd₂ => ?_
  dsimp only at hdx hk₂ ⊢
  have hn₂ := F.ns.at' fun o q => hk₂ _ o (fun z => hLe (by simpa using z)) q
  have up : (KK w).In h₂ := fun a o q => hk₂ a o (fun z => by rw [List.mem_singleton.mp z, hnb] at q; cases q) (C.X.keeps F.keep a o q)
  refine wpAny_execs_cons (plainObj_wpAny_Assign_Attribute ?_)
  refine nameLoc (v := line) hn₂ rfl (nameLoc (v := .ref e) hn₂ rfl ?_)
  refine setExc1 (s := { s with heap := h₂, toks := _ }) up hx₂ hd₂ e6 rfl (by first | k_memK | simp) fun h₃ tk₃ key₃ hs₃ hd₃ => ?_
  refine wpAny_execs_nil ?_
  have hde : dx ≠ e := fun z => by rw [z, F.keep _ _ hx] at hdx; cases hdx
  refine hR h₃ tk₃ t' dx _ _ (fun b o hb q => hs₃.extBut b o (fun z => ?_) (hk₂ b o hb (F.keep b o q))) ((hs₃.2 e (Ne.symm hde)).trans hx₂) ?_ hd₃ rfl
  · rw [z] at q; have := F.keep _ _ q; rw [hdx] at this; cases this
  · cases q : s.heap.get? dx with
    | none => rfl
    | some o => have := F.keep _ _ q; rw [hdx] at this; cases this

/-- an own TypeFault, made -/
theorem makeFault {word line : Value} (C : Cx w s.heap) (hh : A.handled = none) (hdp : A.depth + 8 < recursionLimit)
    (hR : ∀ h' tk e t' dx es n, s.heap.StaysIn h' → s.heap.get? e = none → h'.get? e = some (excRec t' (some dx)) → s.heap.get? dx = none → e ≠ dx → h'.get? dx = some (dictOf es n) → getL "line" es = some (some line) → R (.ok (.ret (.ref e))) { s with heap := h', toks := tk }) :
    codeAny (model rw_pq0388_01.row.prog w) A (.call (.ref 63) ⟨[word, line], []⟩) R s := by
  obtain ⟨h, g, d, t, os⟩ := s
  refine make63 C.X (by first | k_memK | simp) ?_
  have k : ∀ b o, h.get? b = some o → ((h.push (argsTup [word, line])).push (excRec h.objs.size none)).get? b = some o := fun b o e => Heap.get?_push_of_some _ (Heap.get?_push_of_some _ e)
  have hx : ((h.push (argsTup [word, line])).push (excRec h.objs.size none)).get? (h.objs.size + 1) = some (excRec h.objs.size none) := by heap_get
  have hne : h.get? (h.objs.size + 1) = none := none_of_le (Nat.le_succ _)
  have hnb : (KK w).lookup (h.objs.size + 1) = none := by
    cases q : (KK w).lookup (h.objs.size + 1) with
    | none => rfl
    | some o => have := C.X _ _ q; rw [hne] at this; cases this
  refine init48 (s := ⟨_, g, d, t, os⟩) (C.keeps k) hh (by rw [depth_under_kw]; omega) hx hnb fun h' tk t' dx es n hk hx' hdx hd hl => ?_
  refine ⟨rfl, hR h' tk _ t' dx es n (fun b o q => hk b o (fun z => ?_) (k b o q)) hne hx' ?_ (fun z => ?_) hd hl⟩
  · rw [List.mem_singleton.mp z, hne] at q; cases q
  · cases q : h.get? dx with
    | none => rfl
    | some o => have := k _ _ q; rw [hdx] at this; cases this
  · rw [← z, hx] at hdx; cases hdx
end
end Mine

-- MSteady
namespace Mine
open PySem.Calls PySem.Challenge
/-- a tree that never changes an object's dict, and calls nothing -/
def Steady {α : Type} : Sem α → Prop
  | .pure _ => True
  | .raise _ => True
  | .unsupported _ => True
  | .finish _ => True
  | .rule _ k => Steady (k ())
  | .at _ k => Steady (k ())
  | .load _ _ k => ∀ o, Steady (k o)
  | .update _ _ f k => (∀ o, (f o).dict = o.dict ∧ (f o).isFreed = o.isFreed) ∧ Steady (k ())
  | .alloc _ k => ∀ a, Steady (k a)
  | .stack k => ∀ l, Steady (k l)
  | .ask k => ∀ x, Steady (k x)
  | _ => False
theorem Steady.bind {α β : Type} {t : Sem α} {f : α → Sem β} (ht : Steady t) (hf : ∀ a, Steady (f a)) : Steady (t >>= f) := by
  show Steady (Sem.bind t f)
  induction t with
  | pure a => exact hf a
  | raise e => trivial
  | unsupported w => trivial
  | finish e => trivial
  | rule _ k ih => exact ih () ht
  | «at» _ k ih => exact ih () ht
  | load _ _ k ih => exact fun o => ih o (ht o)
  | update _ _ g k ih => exact ⟨ht.1, ih () ht.2⟩
  | alloc _ k ih => exact fun o => ih o (ht o)
  | stack k ih => exact fun o => ih o (ht o)
  | ask k ih => exact fun o => ih o (ht o)
  | _ => exact ht.elim
theorem Steady.pure {α : Type} (a : α) : Steady (Pure.pure a : Sem α) := trivial

/-- what is there stays there, with its dict -/
def DKept (h h' : Heap) : Prop := ∀ b o, h.get? b = some o → ∃ o', h'.get? b = some o' ∧ o'.dict = o.dict
theorem DKept.refl (h : Heap) : DKept h h := fun _ o e => ⟨o, e, rfl⟩
theorem DKept.trans {h₁ h₂ h₃ : Heap} (x : DKept h₁ h₂) (y : DKept h₂ h₃) : DKept h₁ h₃ := fun b o e => let ⟨o', e', d⟩ := x b o e; let ⟨o'', e'', d'⟩ := y b o' e'; ⟨o'', e'', d'.trans d⟩
theorem DKept.push (h : Heap) (o : Obj) : DKept h (h.push o) := fun _ o' e => ⟨o', Heap.get?_push_of_some _ e, rfl⟩
theorem DKept.update {h : Heap} {a : Addr} {f : Obj → Obj} (hf : ∀ o, (f o).dict = o.dict ∧ (f o).isFreed = o.isFreed) : DKept h (h.update a f) := fun b o e => by
  by_cases q : b = a
  · subst q
    exact ⟨f o, Heap.get?_update_self _ e ((hf o).2.trans (Heap.get?_some_iff.mp e).2), (hf o).1⟩
  · exact ⟨o, (Heap.get?_update_other _ _ (Ne.symm q)).trans e, rfl⟩

theorem wp_steady {α : Type} {M : Model} {Γ : Ctx} {h₀ : Heap} (t : Sem α) (ht : Steady t) : ∀ {Q : α → Pos → Shared → Prop} {E : Value → Pos → Shared → Prop} {p : Pos} {s : Shared}, Sem.wp M Γ t Q E p s → DKept h₀ s.heap →
    Sem.wp M Γ t (fun a p s' => Q a p s' ∧ DKept h₀ s'.heap) (fun e p s' => E e p s' ∧ DKept h₀ s'.heap) p s := by
  induction t with
  | pure a => intro Q E p s h k; exact ⟨h, k⟩
  | raise e => intro Q E p s h k; exact ⟨h, k⟩
  | unsupported w => intro Q E p s h k; exact h
  | finish e => intro Q E p s h k; exact h
  | rule _ k ih => intro Q E p s h kk; exact ih () ht h kk
  | «at» _ k ih => intro Q E p s h kk; exact ih () ht h kk
  | load _ _ k ih => intro Q E p s h kk; obtain ⟨o, e, h⟩ := h; exact ⟨o, e, ih o (ht o) h kk⟩
  | update _ _ g k ih => intro Q E p s h kk; exact ⟨h.1, ih () ht.2 h.2 (kk.trans (DKept.update ht.1))⟩
  | alloc o k ih => intro Q E p s h kk; exact ih _ (ht _) h (kk.trans (DKept.push _ _))
  | stack k ih => intro Q E p s h kk; exact ih _ (ht _) h kk
  | ask k ih => intro Q E p s h kk; exact ih _ (ht _) h kk
  | _ => exact ht.elim
theorem wpAny_steady {α : Type} {M : Model} {A : Around} {t : Sem α} {Q : α → Shared → Prop} {E : Value → Shared → Prop} {s : Shared} (ht : Steady t) (h : wpAny M A t Q E s) :
    wpAny M A t (fun a s' => Q a s' ∧ DKept s.heap s'.heap) E s := fun Γ p hΓ =>
  Sem.wp_mono M Γ t (fun _ _ _ x => x) (fun _ _ _ x => x.1) p s (wp_steady t ht (h Γ p hΓ) (DKept.refl _))

theorem map_dict (f : Array Value → Array Value) (o : Obj) : (o.mapFields f).dict = o.dict ∧ (o.mapFields f).isFreed = o.isFreed := by
  obtain ⟨c, d, dt, sl⟩ := o
  cases dt <;> exact ⟨rfl, rfl⟩
theorem steady_fieldsOf (v : Value) : Steady (fieldsOf v) := by
  unfold fieldsOf
  cases v <;> try trivial
  refine Steady.bind (fun o => trivial) fun o => ?_
  split <;> trivial
theorem steady_field (v : Value) (i : Nat) : Steady (field v i) := by
  unfold field
  refine Steady.bind (steady_fieldsOf v) fun vs => ?_
  split <;> trivial
theorem steady_setField (v : Value) (i : Nat) (x : Value) : Steady (setField v i x) := by
  unfold setField
  cases v <;> try trivial
  unfold updateField
  refine Steady.bind (fun o => trivial) fun o => ?_
  split
  · split
    · exact ⟨map_dict _, trivial⟩
    · trivial
  · trivial
theorem steady_newEntry (a b c d e : Value) (l : List Value) : Steady (EntryCells.newEntry a b c d e l) := by
  unfold EntryCells.newEntry newFields newObj
  dsimp only
  split <;> (split <;> first | trivial | exact fun _ => trivial)
theorem steady_setFlight (e : Value) (f : Option Addr) : Steady (setFlight e f) := by
  unfold setFlight
  refine Steady.bind (steady_field _ _) fun tb => ?_
  split
  · exact steady_setField _ _ _
  · trivial
theorem steady_stack : Steady stack := fun _ => trivial
theorem steady_entryPlaceOf (f : Addr) (b : Bool) : Steady (entryPlaceOf f b) := by
  unfold entryPlaceOf
  refine Steady.bind steady_stack fun acts => ?_
  split <;> trivial
theorem steady_keptBack (env : Env) (i : Bool) (l : List Env) : Steady (keptBack env i l) := by
  unfold keptBack
  split
  · split
    · trivial
    · refine Steady.bind (Steady.bind steady_stack fun _ => trivial) fun _ => trivial
  · trivial
theorem steady_behindIsImport (env : Env) (l : List Env) : Steady (behindIsImport env l) := by
  unfold behindIsImport
  split
  · trivial
  · split
    · trivial
    · exact Steady.bind (steady_field _ _) fun _ => trivial
theorem steady_readyFrames : ∀ l : List Env, Steady (readyFrames l)
  | [] => trivial
  | env :: outer => by
    unfold readyFrames
    split
    · refine Steady.bind (fun o => trivial) fun o => ?_
      split
      · trivial
      · refine Steady.bind (steady_behindIsImport _ _) fun _ => Steady.bind (steady_keptBack _ _ _) fun _ => Steady.bind ?_ fun _ => steady_readyFrames outer
        exact ⟨fun o => ⟨rfl, by obtain ⟨c, d, dt, sl⟩ := o; cases dt <;> rfl⟩, trivial⟩
    · trivial
theorem steady_frameOf (env : Env) : Steady (PySem.frameOf env) := by
  unfold PySem.frameOf frameEnvs
  refine Steady.bind (Steady.bind steady_stack fun _ => trivial) fun l => Steady.bind ?_ fun r => by split <;> trivial
  unfold frameObject
  split
  · trivial
  · exact Steady.bind (steady_readyFrames _) fun _ => trivial
theorem steady_noteFrame (e : Value) (env : Env) : Steady (noteFrame e env) := by
  unfold noteFrame
  split
  · refine Steady.bind (steady_field _ _) fun head => ?_
    have rest : ∀ f : Addr, Steady (do let x ← PySem.frameOf env; let pl ← entryPlaceOf f (head != .none); let y ← EntryCells.newEntry head x .none (rawInt f) .none pl; setField e 1 y) := fun f =>
      Steady.bind (steady_frameOf env) fun _ => Steady.bind (steady_entryPlaceOf _ _) fun _ => Steady.bind (steady_newEntry _ _ _ _ _ _) fun _ => steady_setField _ _ _
    split
    · refine Steady.bind (steady_field _ _) fun x => ?_
      split
      · trivial
      · exact Steady.bind (steady_setField _ _ _) fun _ => rest _
    · exact rest _
  · trivial
theorem steady_leaving (env : Env) (e : Value) : Steady (leaving env e) := Steady.bind (steady_noteFrame _ _) fun _ => steady_setFlight _ _
end Mine

-- MRaise
namespace Mine
open PySem.Calls PySem.Challenge
abbrev framesL (l : List Env) : List Addr := l.filterMap (·.frame)
abbrev noHeap : Heap := {}
/-- an exception of class 63 is on its way out of the frames below `outer`, and tells `line` -/
structure Fault (outer : List Env) (h h' : Heap) (e : Addr) (line : Value) : Prop where
  keep : ∀ b o, b ∉ framesL outer → h.get? b = some o → h'.get? b = some o
  slots : h.UpToSlots h'
  fly : ∃ B a0, Heap.FlyingW B outer e (.ref 63) a0 h' ∧ (∀ b o, b ∉ framesL outer → h.get? b = some o → B.get? b = some o) ∧
    ∃ oe dx es n, h'.get? e = some oe ∧ oe.dict = some dx ∧ B.get? dx = some (dictOf es n) ∧ getL "line" es = some (some line)

section
variable {prog : Program} {w : World} {A : Around} {E : Value → Shared → Prop} {s : Shared} {env : Env}
theorem raiseR {x : Expr} {pos : Pos} {Q : Flow → Shared → Prop} (hh : A.handled = none)
    (h : wpAny (model prog w) A (eval x env) (fun v s₁ => ∃ e t dd, v = .ref e ∧ (KK w).In s₁.heap ∧ s₁.heap.get? e = some (excRec t dd) ∧ E (.ref e) s₁) E s) :
    wpAny (model prog w) A (exec (.Raise (some x) none pos) env) Q E s := by
  rw [arm_exec_Raise]
  have key : ∀ (y : Sem Value) (s : Shared), wpAny (model prog w) A y (fun v s₁ => ∃ e t dd, v = .ref e ∧ (KK w).In s₁.heap ∧ s₁.heap.get? e = some (excRec t dd) ∧ E (.ref e) s₁) E s → wpAny (model prog w) A (raiseStmt env (some y) none) Q E s := by
    intro y s h
    unfold raiseStmt
    refine wpAny_bind (wpAny_mono h (fun v s₁ h₁ => ?_) fun _ _ x => x)
    obtain ⟨e, t, dd, rfl, X, he, hE⟩ := h₁
    obtain ⟨nm, q, bs, hdct, sn, sub, ab, col, dd', k0, k1, k2, k3, k5, hC⟩ := cls63 X
    obtain ⟨hp, g, d, tk, os⟩ := s₁
    have hcB : ([Value.ref 63, .ref 51, .ref 31, .type "Exception", .type "BaseException", .type "object"]).contains (.type "BaseException") = true := by rfl
    repeat (first | with_reducible refine wpAny_loadPart_at he ?_ | with_reducible refine wpAny_loadPart_at hC ?_ | (with_reducible refine wpAny_isSubtype_exc hC ?_; rw [hcB]) | wp_step)
    exact wpAny_raiseNew_none hh hE
  refine wpAny_bind (wpAny_standAt ?_)
  refine key _ _ ?_
  exact wpAny_bind (wpAny_mono h (fun v s₁ h₁ => wpAny_bind (wpAny_standAt (wpAny_pure h₁))) fun _ _ x => x)
end
section
variable {M : Model} {A : Around} {E : Value → Shared → Prop} {s : Shared} {env : Env} {outer : List Env} {h : Heap} {L e t dx : Addr} {m : Str → Option Value} {line : Value} {Q : Unit → Shared → Prop}
theorem funFrames_push (hl : h.FunFrames noHeap outer) (F : Fr h L s.heap m) (hf : env.frame = some L) (hk : env.scope.kind ≠ .module) : s.heap.FunFrames noHeap (env :: outer) := by
  obtain ⟨o, es, ep, ho, hd, _⟩ := F.ns
  exact ⟨hk, ⟨L, o, hf, rfl, ho, fun vs q => by rw [hd] at q; cases q⟩, hl.of_keeps fun b o e _ => ⟨o, F.keep b o e, rfl⟩⟩

theorem leaveFirst (hfr : A.frames = some (env :: outer)) (hf : env.frame = some L) (hk : env.scope.kind ≠ .module) (hl : h.FunFrames noHeap outer) (F : Fr h L s.heap m)
    (he : s.heap.get? e = some (excRec t (some dx))) (hen : h.get? e = none) (hdx : s.heap.get? dx = some (dictOf es n)) (hdn : h.get? dx = none) (hdL : dx ≠ L) (hde : dx ≠ e) (hg : getL "line" es = some (some line))
    (hQ : ∀ h', Fault outer h h' e line → Q () { s with heap := h' }) : wpAny M A (leaving env (.ref e)) Q E s := by
  have Fh := funFrames_push hl F hf hk
  have hin : ∀ env' ∈ env :: outer, ∀ a, env'.frame = some a → a ∈ e :: framesL (env :: outer) := fun env' he' a ha => .tail _ (List.mem_filterMap.mpr ⟨env', he', ha⟩)
  have hen' : e ∉ framesL (env :: outer) := fun q => by
    obtain ⟨_, o, ho, hd⟩ := Fh.mem q
    rw [he] at ho; cases ho; exact hd _ rfl
  have hnf : ∀ b, h.get? b = none → b ≠ L → b ∉ framesL (env :: outer) := fun b hb hbL q => by
    rw [framesL, List.filterMap_cons, hf] at q
    rcases List.mem_cons.mp q with q | q
    · exact hbL q
    · obtain ⟨_, o, ho, _⟩ := hl.mem q
      rw [hb] at ho; cases ho
  have old : ∀ b o, b ∉ framesL outer → h.get? b = some o → b ∉ e :: framesL (env :: outer) := fun b o hb q z => by
    rcases List.mem_cons.mp z with z | z
    · rw [z, hen] at q; cases q
    · rw [framesL, List.filterMap_cons, hf] at z
      rcases List.mem_cons.mp z with z | z
      · have := ltS q
        rw [z] at this
        exact absurd this (Nat.not_lt.mpr F.above)
      · exact hb z
  have key := wpAny_leaving_firstW (M := M) (A := A) (E := E) (s := s) (base := hideAll s.heap (e :: framesL (env :: outer))) (L := L) (e := e) (oe := excRec t (some dx)) (a0 := .ref t) (Q := fun _ s' => ∃ h', s' = { s with heap := h' } ∧ Heap.LeftW (hideAll s.heap (e :: framesL (env :: outer))) (env :: outer) e (.ref 63) (.ref t) s.heap h') hfr
    (funFrames_hide Fh hin) hf he (fun b o q => of_hideAll _ q) (hideAll_none _ (.head _)) rfl rfl rfl fun h' x => ⟨h', rfl, x⟩
  refine wpAny_mono (wpAny_steady (steady_leaving env (.ref e)) key) (fun _ s' hs' => ?_) fun _ _ z => z
  obtain ⟨⟨h', rfl, k1, ⟨_, _, k2⟩, k3, k4⟩, hD⟩ := hs'
  refine hQ h' ⟨fun b o hb q => k1 b o (hideAll_get _ (F.keep b o q) (old b o hb q)), (Heap.UpToSlots.of_keeps F.keep).trans k4, _, _, ⟨k1, hideAll_none _ (.head _), k2, k3⟩, fun b o hb q => hideAll_get _ (F.keep b o q) (old b o hb q), ?_⟩
  obtain ⟨oe', he', hd'⟩ := hD e _ he
  refine ⟨oe', dx, es, n, he', hd', hideAll_get _ hdx fun z => ?_, hg⟩
  rcases List.mem_cons.mp z with z | z
  · exact hde z
  · exact hnf dx hdn hdL z

theorem leaveOn {h₁ : Heap} (hfr : A.frames = some (env :: outer)) (hf : env.frame = some L) (F : Fr h L h₁ m) (X : Fault (env :: outer) h₁ s.heap e line)
    (hQ : ∀ h', Fault outer h h' e line → Q () { s with heap := h' }) : wpAny M A (leaving env (.ref e)) Q E s := by
  obtain ⟨kp, ks, B, a0, hfl, kb, oe, dx, es, n, h1, h2, h3, h4⟩ := X
  have old : ∀ b o, b ∉ framesL outer → h.get? b = some o → b ∉ framesL (env :: outer) := fun b o hb q z => by
    rw [framesL, List.filterMap_cons, hf] at z
    rcases List.mem_cons.mp z with z | z
    · have := ltS q
      rw [z] at this
      exact absurd this (Nat.not_lt.mpr F.above)
    · exact hb z
  have key := wpAny_leaves_onW (M := M) (A := A) (E := E) (s := s) (L := L) (Q := fun _ s' => ∃ h', s' = { s with heap := h' } ∧ Heap.FlyingW B outer e (.ref 63) a0 h' ∧ s.heap.UpToSlots h') hfr hf hfl fun h' x y => ⟨h', rfl, x, y⟩
  refine wpAny_mono (wpAny_steady (steady_leaving env (.ref e)) key) (fun _ s' hs' => ?_) fun _ _ z => z
  obtain ⟨⟨h', rfl, k1, k2⟩, hD⟩ := hs'
  obtain ⟨oe', he', hd'⟩ := hD e _ h1
  exact hQ h' ⟨fun b o hb q => k1.1 b o (kb b o (old b o hb q) (F.keep b o q)), ((Heap.UpToSlots.of_keeps F.keep).trans ks).trans k2, B, a0, k1, fun b o hb q => kb b o (old b o hb q) (F.keep b o q), oe', dx, es, n, he', hd'.trans h2, h3, h4⟩
end
end Mine

-- MMerg0
namespace Mine
open PySem.Calls PySem.Challenge
def stepRows {α : Type} [DecidableEq α] (x : α) (rows : List (List α)) : List (List α) := (rows.map fun r => if r.head? = some x then r.drop 1 else r).filter fun r => !r.isEmpty
def mergeLoop {α : Type} [DecidableEq α] : Nat → List (List α) → List α → Option (List α)
  | 0, rows, found => if rows = [] then some found else none
  | k + 1, rows, found => if rows = [] then some found else match freeHead rows with
    | none => none
    | some x => mergeLoop k (stepRows x rows) (found ++ [x])
def merged {α : Type} [DecidableEq α] (rows : List (List α)) : Option (List α) := mergeLoop ((rows.filter fun r => !r.isEmpty).map List.length).sum (rows.filter fun r => !r.isEmpty) []

theorem freeHead_mem {α : Type} [DecidableEq α] {rows : List (List α)} {x : α} (h : freeHead rows = some x) : ∃ r ∈ rows, r.head? = some x := by
  have := List.mem_of_find?_eq_some h
  obtain ⟨r, hr, e⟩ := List.mem_filterMap.mp this
  exact ⟨r, hr, e⟩
theorem sum_filter_le {α : Type} (rows : List (List α)) : ((rows.filter fun r => !r.isEmpty).map List.length).sum ≤ (rows.map List.length).sum := by
  induction rows with
  | nil => simp
  | cons r rs ih =>
    rw [List.filter_cons]
    split
    · simp only [List.map_cons, List.sum_cons]; omega
    · simp only [List.map_cons, List.sum_cons]; omega
theorem sum_step_le {α : Type} [DecidableEq α] (x : α) (rows : List (List α)) : ((rows.map fun r => if r.head? = some x then r.drop 1 else r).map List.length).sum ≤ (rows.map List.length).sum := by
  induction rows with
  | nil => simp
  | cons r rs ih =>
    simp only [List.map_cons, List.sum_cons]
    split
    · rw [List.length_drop]; omega
    · omega
theorem sum_step_lt {α : Type} [DecidableEq α] {x : α} {rows : List (List α)} (h : ∃ r ∈ rows, r.head? = some x) : ((rows.map fun r => if r.head? = some x then r.drop 1 else r).map List.length).sum < (rows.map List.length).sum := by
  induction rows with
  | nil => obtain ⟨r, hr, _⟩ := h; cases hr
  | cons r rs ih =>
    simp only [List.map_cons, List.sum_cons]
    have := sum_step_le x rs
    by_cases e : r.head? = some x
    · rw [if_pos e]
      have : 0 < r.length := by cases r with | nil => cases e | cons _ _ => simp
      rw [List.length_drop]; omega
    · rw [if_neg e]
      have : ∃ r ∈ rs, r.head? = some x := by
        obtain ⟨r', hr', e'⟩ := h
        rcases List.mem_cons.mp hr' with rfl | hr'
        · exact absurd e' e
        · exact ⟨r', hr', e'⟩
      have := ih this
      omega
theorem stepRows_lt {α : Type} [DecidableEq α] {x : α} {rows : List (List α)} (h : freeHead rows = some x) : ((stepRows x rows).map List.length).sum < (rows.map List.length).sum :=
  Nat.lt_of_le_of_lt (sum_filter_le _) (sum_step_lt (freeHead_mem h))

def rowHas (rows : List (Addr × List Value)) (f : List Value → Bool) (v : Value) : Bool := rows.any fun q => decide (Value.ref q.1 = v) && f q.2
theorem rowHas_at {h : Heap} {rows : List (Addr × List Value)} (hr : ∀ q ∈ rows, h.IsList q.1 (List.toArray q.2)) {q : Addr × List Value} (hq : q ∈ rows) (f : List Value → Bool) : rowHas rows f (.ref q.1) = f q.2 := by
  rw [Bool.eq_iff_iff]
  unfold rowHas
  rw [List.any_eq_true]
  constructor
  · rintro ⟨q', hq', e⟩
    simp only [Bool.and_eq_true, decide_eq_true_eq] at e
    obtain ⟨e1, e2⟩ := e
    have e1 : q'.1 = q.1 := by injection e1
    have := hr q' hq'
    rw [e1] at this
    rw [isListUniq (hr q hq) this]; exact e2
  · intro e
    exact ⟨q, hq, by simpa using e⟩
theorem rowHas_filter {h : Heap} {rows : List (Addr × List Value)} (hr : ∀ q ∈ rows, h.IsList q.1 (List.toArray q.2)) (f : List Value → Bool) :
    (rows.map fun q => Value.ref q.1).filter (rowHas rows f) = (rows.filter fun q => f q.2).map fun q => Value.ref q.1 := by
  have : ∀ l : List (Addr × List Value), (∀ q ∈ l, q ∈ rows) → (l.map fun q => Value.ref q.1).filter (rowHas rows f) = (l.filter fun q => f q.2).map fun q => Value.ref q.1 := by
    intro l
    induction l with
    | nil => intro _; rfl
    | cons q l ih =>
      intro hl
      have e := rowHas_at hr (hl q (.head _)) f
      have ih := ih fun q' hq' => hl q' (.tail _ hq')
      rw [List.map_cons]
      rw [List.filter_cons, List.filter_cons, e, ih]
      split <;> rfl
  exact this rows fun _ h => h
theorem rowsOf {h' : Heap} {g : Value → Addr → List Value → Prop} (f : List Value → List Value) {D : Addr} : ∀ {l : List (Addr × List Value)} {ys : List Value}, Paired (EltIs (fun _ _ => False) g h') (l.map fun q => Value.ref q.1) ys →
    (∀ q ∈ l, ∀ T its, g (.ref q.1) T its → T ≠ D ∧ its = f q.2) → ∃ rows' : List (Addr × List Value), ys = rows'.map (fun q => Value.ref q.1) ∧ rows'.map Prod.snd = l.map (fun q => f q.2) ∧ ∀ q ∈ rows', q.1 ≠ D ∧ h'.IsList q.1 (List.toArray q.2)
  | [], ys, P, _ => by cases P; exact ⟨[], rfl, rfl, fun _ h => nomatch h⟩
  | q :: l, ys, P, hg => by
    cases P with
    | cons hy P =>
      obtain ⟨rows', e1, e2, e3⟩ := rowsOf f P fun q' hq' => hg q' (.tail _ hq')
      rcases hy with hy | ⟨T, its, rfl, hl, hT⟩
      · exact hy.elim
      · obtain ⟨hne, rfl⟩ := hg q (.head _) T its hT
        refine ⟨(T, f q.2) :: rows', by rw [e1]; rfl, by simp [e2], fun q' hq' => ?_⟩
        rcases List.mem_cons.mp hq' with rfl | hq'
        · exact ⟨hne, hl⟩
        · exact e3 q' hq'

section
variable {prog : Program} {w : World} {A : Around} {E : Value → Shared → Prop} {s : Shared} {env : Env} {h₀ : Heap} {L : Addr}
theorem whileE {test : Expr} {body : List Stmt} {pos : Pos} {Q : Flow → Shared → Prop} {k₀ : Nat} {m : Str → Option Value} {news : List (Addr × Obj)} (J : Nat → Heap → (Str → Option Value) → List (Addr × Obj) → Prop)
    (F : Fr h₀ L s.heap m) (N : News h₀ L s.heap news) (hJ : J k₀ s.heap m news)
    (turn : ∀ k h tk m' news', J k h m' news' → Fr h₀ L h m' → News h₀ L h news' → wpAny (model prog w) A (isTrue test env (eval test env)) (fun b s₂ => if b then
        wpAny (model prog w) A (execs body env) (fun f s₃ => match f with
          | .ret v => Q (.ret v) s₃
          | .brk => Q .next s₃
          | _ => ∃ k' h' tk' m'' news'', k' < k ∧ s₃ = { s with heap := h', toks := tk' } ∧ Fr h₀ L h' m'' ∧ News h₀ L h' news'' ∧ J k' h' m'' news'') E s₂
      else Q .next s₂) E { s with heap := h, toks := tk })
    (hE : PassesOwn (model prog w) A env E := by passes_own) :
    wpAny (model prog w) A (exec (.While test body [] pos) env) Q E s := by
  refine wpAny_While (codeAny_whileLoop (fun k s' => ∃ h' tk m' news', s' = { s with heap := h', toks := tk } ∧ Fr h₀ L h' m' ∧ News h₀ L h' news' ∧ J k h' m' news') ?_ k₀ ⟨s.heap, s.toks, m, news, rfl, F, N, hJ⟩)
  rintro k s' ⟨h', tk, m', news', rfl, F', N', hJ'⟩
  refine wpAny_passesOwn hE (wpAny_mono (turn k h' tk m' news' hJ' F' N') (fun b s₂ h₂ => ?_) fun _ _ e => e)
  cases b with
  | false => exact wpAny_execs_nil h₂
  | true =>
    refine wpAny_passesOwn hE (wpAny_mono h₂ (fun f s₃ h₃ => ?_) fun _ _ e => e)
    have fin : (∃ k' h' tk' m'' news'', k' < k ∧ s₃ = { s with heap := h', toks := tk' } ∧ Fr h₀ L h' m'' ∧ News h₀ L h' news'' ∧ J k' h' m'' news'') →
        ∃ m, m < k ∧ ∃ h' tk m' news', s₃ = { s with heap := h', toks := tk } ∧ Fr h₀ L h' m' ∧ News h₀ L h' news' ∧ J m h' m' news' := by
      rintro ⟨k', h'', tk'', m'', news'', hk, e, F'', N'', hJ''⟩
      exact ⟨k', hk, h'', tk'', m'', news'', e, F'', N'', hJ''⟩
    cases f with
    | ret v => exact h₃
    | brk => exact h₃
    | next => exact fin h₃
    | cont => exact fin h₃

theorem stCellS {M : Model} {m : Str → Option Value} {news : List (Addr × Obj)} {c : Addr} {o : Obj} {x : Str} {v : Value} {v₀ : Option Value} {Q : Unit → Shared → Prop} (rest : List (Addr × Obj)) (hc : env.cells.lookup x = some c) (F : Fr h₀ L s.heap m) (N : News h₀ L s.heap news) (hm : (c, o) ∈ news) (hd : o.data = .cell v₀)
    (hsub : ∀ p ∈ rest, p ∈ news) (hne : ∀ p ∈ rest, p.1 ≠ c)
    (h : ∀ h' o', Heap.SameBut c s.heap h' → Fr h₀ L h' m → News h₀ L h' ((c, o') :: rest) → o'.data = .cell (some v) → Q () { s with heap := h' })
    (hk : env.scope.kind = .function := by rfl) (hx : env.kindOf x = some .cell := by rfl) : wpAny M A (storeName env x v) Q E s := by
  refine wpAny_storeName_cell hk hx hc ⟨o, (N _ hm).1, hd⟩ fun h' hv hs => ?_
  obtain ⟨o', ho', hd'⟩ := hv
  exact h h' o' hs (F.change hs (N _ hm).2.1 (N _ hm).2.2) (newsPut N hm rest hsub hne hs ho') hd'
theorem isList_ne_ns {h : Heap} {T L : Addr} {its : Array Value} {m : Str → Option Value} (x : h.IsList T its) (hn : h.Ns L m) : T ≠ L := by
  rintro rfl
  obtain ⟨o, ho, hcl, nn, hd⟩ := x
  obtain ⟨o', es, ep, ho', hd', _⟩ := hn
  rw [ho] at ho'; cases ho'; rw [hd] at hd'; cases hd'
theorem isList_ne_cell {h : Heap} {T c : Addr} {its : Array Value} {o : Obj} {v : Option Value} (x : h.IsList T its) (ho' : h.get? c = some o) (hd' : o.data = .cell v) : T ≠ c := by
  rintro rfl
  obtain ⟨o', ho, hcl, nn, hd⟩ := x
  rw [ho] at ho'; cases ho'; rw [hd] at hd'; cases hd'
end
end Mine

-- MMerg
namespace Mine
open PySem.Calls PySem.Challenge
theorem b1 : bootBuiltins "list" = some (.type "list") := by kernel_rfl
theorem toList_isEmpty {α : Type} (l : List α) : (List.toArray l).isEmpty = l.isEmpty := by cases l <;> rfl

theorem none_back {h₀ h : Heap} {L b : Addr} {m : Str → Option Value} (F : Fr h₀ L h m) (e : h.get? b = none) : h₀.get? b = none := by
  cases q : h₀.get? b with
  | none => rfl
  | some o => have := F.keep _ _ q; rw [e] at this; cases this

theorem merged_spec {w : World} {A : Around} {s : Shared} {R : Result → Shared → Prop} {r : Addr} {line : Value} {rows : List (Addr × List Value)} {outer : List Env} (C : Cx w s.heap) (hh : A.handled = none) (hdp : A.depth + 20 < recursionLimit) (hu : A.units + 200 < cLine)
    (hfr : A.frames = some outer) (hl : s.heap.FunFrames noHeap outer)
    (hr : RowsAt s.heap r rows) (hde : ∀ q ∈ rows, DeclsAre s.heap q.2) (hsz : rows.length ≤ 1000000) (hsum : ((rows.map Prod.snd).map List.length).sum ≤ 1000000)
    (hR : ∀ h' tk D found, merged (rows.map Prod.snd) = some found → s.heap.StaysIn h' → s.heap.get? D = none → h'.PlainList D (List.toArray found) → R (.ok (.ret (.ref D))) { s with heap := h', toks := tk })
    (hX : ∀ h' tk e, merged (rows.map Prod.snd) = none → Fault outer s.heap h' e line → R (.error (.ref e)) { s with heap := h', toks := tk }) :
    codeAny (model rw_pq0388_01.row.prog w) A (.call (.ref 75) ⟨[.ref r, line], []⟩) R s := by
  refine enterC C.lim (C.X 75 _ rfl) rfl (codeRec_of C.X rfl) (by omega) (BindsTo.of_eq rfl) (kindsX rfl) (by decide +kernel) ?_
  intro L h₁ tk cells F N hL Y
  obtain ⟨o, rfl, d1⟩ := CellsAre.one Y
  clear Y
  refine wpAny_execs_cons (wpAny_Assign_Name ?_)
  refine List_ (spliced_none (newList_K F N (fun D h₂ F₂ N₂ hD₂ => ?_) (by first | k_memK | simp)))
  have hD₂' : LtN (L + 1) D := hD₂ _ (.head _)
  refine stLoc F₂ N₂ fun h₃ tk₃ F₃ N₃ => ?_
  refine wpAny_execs_cons ?_
  -- rows = [list(row) for row in rows if row]
  refine compRA (rowHas rows fun l => !l.isEmpty) (fun _ _ => False) (fun v T its => T ≠ D ∧ ∃ q ∈ rows, v = .ref q.1 ∧ its = q.2) (cl := []) rfl hh rfl (by decide) rfl (by decide) rfl rfl rfl ?_
  refine nameLoc (v := .ref r) F₃.ns rfl ?_
  have hql : ∀ q ∈ rows, q.2.length ≤ 1000000 := fun q hq => Nat.le_trans (memLeSum (List.mem_map_of_mem (List.mem_map_of_mem hq))) hsum
  refine ⟨r, rows.map fun q => Value.ref q.1, _, rfl, F₃.lst hr.list, by simp [sizeLine]; omega, F₃.ns, ?_, ?_, ?_⟩
  · intro C' v s₃ m₃ E' hv F₃' hm₃
    obtain ⟨q, hq, rfl⟩ := List.mem_map.mp hv
    refine wpAny_tests_one (isTrue_plain (nameLoc (m := m₃) F₃'.ns hm₃ (wpAny_truthy_list (F₃'.lst (F₃.lst (hr.row q hq))) (by have := hql q hq; rw [List.size_toArray]; omega) ⟨?_, keepsTok⟩)))
    rw [rowHas_at hr.row hq, toList_isEmpty]
  · intro C' v s₃ m₃ E' hv _ F₃' hm₃
    obtain ⟨q, hq, rfl⟩ := List.mem_map.mp hv
    have hlq := F₃'.lst (F₃.lst (hr.row q hq))
    obtain ⟨oq, hoq, hcq, nq, hdq⟩ := id hlq
    refine Call_ (nameBuiltin (C.keeps fun b o e => F₃'.keep b o (F₃.keep b o e)) (v := .type "list") rfl b1 (PyProof.Rows.callWith_type1 (spliced_more (nameLoc (m := m₃) F₃'.ns hm₃ (spliced_none ?_)))))
    refine call_list_seq (hsz := by have := hql q hq; simp [sizeLine]; omega) q.1 (.inl rfl) hoq hcq hdq fun h' c' hk hD => ?_
    refine ⟨.inr ⟨_, q.2, rfl, .inr (none_of_le (Nat.le_refl _)), ⟨_, hD, rfl, c', rfl⟩, ?_, q, hq, rfl, rfl⟩, _, _, rfl, hk⟩
    intro z
    have e1 := (N₃ (D, listOf [].toArray 0) (.head _)).1
    have := ltS (F₃'.keep _ _ e1)
    rw [← z] at this
    exact Nat.lt_irrefl _ this
  intro r₁ h₄ tk₄ ys hr₁ hpl hP hlen hn₄ hk₄
  dsimp only at hr₁ hk₄ hlen hn₄ ⊢
  rw [rowHas_filter hr.row] at hP
  obtain ⟨rows₁, rfl, hsnd0, hrow⟩ := rowsOf id hP (fun q hq T its hT => by
    obtain ⟨h1, q', hq', e1, e2⟩ := hT
    have e1 : q.1 = q'.1 := by injection e1
    have := hr.row q' hq'
    rw [← e1] at this
    exact ⟨h1, e2.trans (isListUniq this (hr.row q (List.mem_filter.mp hq).1))⟩)
  have hsnd : rows₁.map Prod.snd = (rows.map Prod.snd).filter fun l => !l.isEmpty := by
    rw [hsnd0, List.filter_map]; rfl
  clear hP hsnd0
  have F₄ := frLoc F₃ hn₄ hk₄
  have N₄ := newsLoc N₃ hk₄
  have hr₁D : r₁ ≠ D := fun z => by rw [z, (N₃ (D, listOf [].toArray 0) (.head _)).1] at hr₁; cases hr₁
  have hsum₁ : ((rows₁.map Prod.snd).map List.length).sum ≤ 1000000 := by rw [hsnd]; exact Nat.le_trans (sum_filter_le _) hsum
  have hcon₁ : ∀ l ∈ rows₁.map Prod.snd, l ≠ [] ∧ DeclsAre s.heap l := by
    rw [hsnd]
    intro l hl
    obtain ⟨hl, e⟩ := List.mem_filter.mp hl
    obtain ⟨q, hq, rfl⟩ := List.mem_map.mp hl
    exact ⟨fun z => by rw [z] at e; simp at e, hde q hq⟩
  have hlen₁ : rows₁.length ≤ 1000000 := by simp only [List.length_map] at hlen; omega
  have hm₁ : mergeLoop ((rows₁.map Prod.snd).map List.length).sum (rows₁.map Prod.snd) [] = merged (rows.map Prod.snd) := by rw [hsnd]; rfl
  clear hk₄ hn₄ N₃ F₃ N₂ F₂ hD₂ hlen hsnd N F hr₁
  refine wpAny_execs_cons ?_
  refine whileE (s := { s with heap := h₄, toks := tk₄ }) (h₀ := s.heap) (L := L) (k₀ := ((rows₁.map Prod.snd).map List.length).sum) (fun k h m' news' => m' "line" = some line ∧ m' "found" = some (.ref D) ∧ ∃ r' rows' found n o1 c, m' "rows" = some (.ref r') ∧ news' = [(L + 1, o1), (D, listOf (List.toArray found) n)] ∧ o1.data = .cell c ∧
      h.IsList r' (List.toArray (rows'.map fun q : Addr × List Value => Value.ref q.1)) ∧ r' ≠ D ∧ (∀ q ∈ rows', q.1 ≠ D ∧ h.IsList q.1 (List.toArray q.2)) ∧ (∀ l ∈ rows'.map Prod.snd, l ≠ [] ∧ DeclsAre s.heap l) ∧ rows'.length ≤ 1000000 ∧
      ((rows'.map Prod.snd).map List.length).sum ≤ k ∧ ((rows'.map Prod.snd).map List.length).sum + found.length ≤ 1000000 ∧ mergeLoop k (rows'.map Prod.snd) found = merged (rows.map Prod.snd)) F₄
    (fun p hp => N₄ p (by simp only [List.mem_cons, List.not_mem_nil, or_false] at hp ⊢; rcases hp with h | h <;> simp [h]))
    ⟨rfl, rfl, r₁, rows₁, [], 0, o, _, rfl, rfl, d1, hpl.isList, hr₁D, hrow, hcon₁, hlen₁, Nat.le_refl _, by simpa using hsum₁, hm₁⟩ ?_
  clear hm₁ hlen₁ hcon₁ hsum₁ hr₁D N₄ F₄ hrow hpl d1 rows₁ r₁
  rintro k h₂ tk₂ m₂ news₂ ⟨hmL, hmD, r', rows', found, n, o1, c, hmr, rfl, d1, hlr, hrD, hrow, hcon, hlen, hk, hsz2, hmg⟩ F₂ N₂
  have hql' : ∀ q ∈ rows', q.2.length ≤ 1000000 := fun q hq => by
    have : q.2.length ≤ ((rows'.map Prod.snd).map List.length).sum := memLeSum (List.mem_map_of_mem (List.mem_map_of_mem hq))
    omega
  refine isTrue_plain (nameLoc (v := .ref r') F₂.ns hmr (wpAny_truthy_list hlr (by simp; omega) ?_))
  rw [toList_isEmpty]
  cases hrows : rows' with
  | nil =>
    subst hrows
    refine wpAny_execs_cons (wpAny_Return_some (nameLoc F₂.ns hmD ?_))
    have e := N₂ (D, listOf (List.toArray found) n) (by first | k_memK | simp)
    refine hR h₂ _ D found ?_ F₂.keep e.2.2 ⟨n, e.1⟩
    rw [← hmg]
    cases k <;> simp [mergeLoop]
  | cons q₀ rs₀ =>
  have hne : rows' ≠ [] := by rw [hrows]; exact fun z => nomatch z
  rw [← hrows]
  clear hrows
  have hne' : (rows'.map fun q => Value.ref q.1).isEmpty = false := by cases rows' with | nil => exact absurd rfl hne | cons _ _ => rfl
  rw [hne']
  simp only [Bool.not_false, if_true]
  -- head = head_free(rows)
  refine wpAny_execs_cons (wpAny_Assign_Name (Call_ (nameGlob (C.keeps F₂.keep) (v := .ref 70) rfl (callWith_K (K := KK w) C.X rfl (spliced_more (nameLoc (v := .ref r') F₂.ns hmr (spliced_none ⟨C.X.keeps F₂.keep, wpAny_call ?_⟩)))))))
  refine headFree_spec (s := { s with heap := h₂, toks := _ }) (rows := rows') (C.X.keeps F₂.keep) (C.keeps F₂.keep).lim hh (by show A.depth + 1 < recursionLimit; omega) (by show A.units + 3 + 20 < cLine; omega) ⟨hlr, fun q hq => (hrow q hq).2⟩ (fun q hq => (hcon q.2 (List.mem_map_of_mem hq)).1) (fun q hq => (hcon q.2 (List.mem_map_of_mem hq)).2.keeps F₂.keep) hlen hql' fun h₃ tk₃ hk₃ => ?_
  dsimp only at hk₃ ⊢
  have F₃ := F₂.keptAll hk₃
  have N₃ := newsKeep N₂ hk₃
  refine stCellS (s := { s with heap := h₃, toks := tk₃ }) (c := L + 1) (o := o1) [(D, listOf (List.toArray found) n)] rfl F₃ N₃ (by first | k_memK | simp) d1 (fun p hp => .tail _ hp) (fun p hp => by rw [List.mem_singleton.mp hp]; exact neN (by omega)) fun h₄ o4 hs₄ F₄ N₄ d4 => ?_
  have hrow₄ : ∀ q ∈ rows', q.1 ≠ D ∧ h₄.IsList q.1 (List.toArray q.2) := fun q hq => ⟨(hrow q hq).1, by
    have z : h₃.IsList q.1 (List.toArray q.2) := (hrow q hq).2.at fun o e => hk₃ _ o e
    exact z.extBut hs₄.extBut (isList_ne_cell z (N₃ (L + 1, o1) (.head _)).1 d1)⟩
  have hlr₄ : h₄.IsList r' (List.toArray (rows'.map fun q : Addr × List Value => Value.ref q.1)) := by
    have z : h₃.IsList r' (List.toArray (rows'.map fun q : Addr × List Value => Value.ref q.1)) := hlr.at fun o e => hk₃ _ o e
    exact z.extBut hs₄.extBut (isList_ne_cell z (N₃ (L + 1, o1) (.head _)).1 d1)
  have hcl : h₄.IsCell (L + 1) (some ((freeHead (rows'.map (·.2))).getD .none)) := Mine.News.cellIs N₄ (o := o4) (by first | k_memK | simp) d4
  clear N₃ F₃ hs₄ hk₃ N₂ F₂ hrow hlr
  dsimp only
  obtain ⟨k, rfl⟩ : ∃ k', k = k' + 1 := ⟨k - 1, by
    cases rows' with
    | nil => exact absurd rfl hne
    | cons q rs =>
      have := (hcon q.2 (by first | k_memK | simp)).1
      have : 0 < q.2.length := by cases e : q.2 with | nil => exact absurd e this | cons _ _ => simp
      simp only [List.map_cons, List.sum_cons] at hk
      omega⟩
  have hmgs : mergeLoop (k + 1) (rows'.map Prod.snd) found = match freeHead (rows'.map Prod.snd) with
    | none => none
    | some x => mergeLoop k (stepRows x (rows'.map Prod.snd)) (found ++ [x]) := by
      simp only [mergeLoop, List.map_eq_nil_iff, hne, if_false]
      cases freeHead (rows'.map Prod.snd) <;> rfl
  rw [hmgs] at hmg
  clear hmgs
  refine wpAny_execs_cons (wpAny_If (wpAny_isTrue_Compare1 (nameCell (c := L + 1) rfl hcl (wpAny_pure ?_))))
  cases hfh : freeHead (rows'.map Prod.snd) with
  | none =>
    rw [hfh] at hmg hcl
    simp only [Option.getD_none] at hcl ⊢
    refine wpAny_is_self rfl (wpAny_truthy_bool ?_)
    simp only [if_true]
    refine wpAny_execs_cons (raiseR (w := w) hh (Call_ (nameGlob (C.keeps F₄.keep) (v := .ref 63) rfl (callWith_K (K := KK w) C.X rfl (spliced_more (wpAny_Constant_str ?_))))))
    refine spliced_more (nameLoc (v := line) F₄.ns hmL (spliced_none ⟨C.X.keeps F₄.keep, wpAny_call ?_⟩))
    refine makeFault (s := { s with heap := h₄, toks := _ }) (C.keeps F₄.keep) hh (by show A.depth + 1 + 8 < recursionLimit; omega) fun h₅ tk₅ e t' dx es n₅ hk₅ he he' hdx hne hdx' hg => ?_
    dsimp only at hk₅ he hdx ⊢
    refine ⟨e, t', some dx, rfl, (C.X.keeps F₄.keep).keeps hk₅, he', ?_⟩
    have F₅ := F₄.keptAll hk₅
    refine leaveFirst (s := { s with heap := h₅, toks := tk₅ }) (h := s.heap) (outer := outer) (L := L) (dx := dx) (Around.frames_deeper hfr) rfl (fun z => nomatch z) hl F₅ he' ?_ hdx' ?_ ?_ (Ne.symm hne) hg fun h₆ X => ?_
    · exact none_back F₄ he
    · exact none_back F₄ hdx
    · rintro rfl
      obtain ⟨oL, _, _, eL, _⟩ := F₄.ns
      rw [hdx] at eL; cases eL
    · exact hX h₆ tk₅ e hmg.symm X
  | some x =>
    rw [hfh] at hmg hcl
    simp only [Option.getD_some] at hcl ⊢
    have hxm : ∃ l ∈ rows'.map Prod.snd, l.head? = some x := freeHead_mem hfh
    obtain ⟨cx, rfl, hDx⟩ : ∃ cx, x = .ref cx ∧ DeclAt s.heap cx := by
      obtain ⟨l, hl', e⟩ := hxm
      exact (hcon l hl').2 x (List.mem_of_mem_head? (by rw [e]; exact rfl))
    refine is_ref_none (wpAny_truthy_bool ?_)
    simp only [Bool.false_eq_true, if_false]
    refine wpAny_execs_nil ?_
    dsimp only
    -- found.append(head)
    have hlt := stepRows_lt hfh
    refine wpAny_execs_cons (appendStmt (nameLoc F₄.ns hmD ⟨D, _, _, rfl, (N₄ (D, listOf (List.toArray found) n) (by first | k_memK | simp)).1, nameCell (c := L + 1) rfl hcl ?_⟩))
    refine ⟨_, _, (N₄ (D, listOf (List.toArray found) n) (by first | k_memK | simp)).1, by simp only [List.size_toArray]; simp [sizeLine]; omega, fun h₅ hs₅ ho₅ => ?_⟩
    have eD := N₄ (D, listOf (List.toArray found) n) (by first | k_memK | simp)
    have F₅ := F₄.change hs₅ eD.2.1 eD.2.2
    have N₅ := newsPut N₄ (c := D) (o := listOf (List.toArray found) n) (by first | k_memK | simp) [(L + 1, o4)] (fun p hp => by rw [List.mem_singleton.mp hp]; exact .head _) (fun p hp => by rw [List.mem_singleton.mp hp]; exact neN (by omega)) hs₅ ho₅
    have hrow₅ : ∀ q ∈ rows', q.1 ≠ D ∧ h₅.IsList q.1 (List.toArray q.2) := fun q hq => ⟨(hrow₄ q hq).1, (hrow₄ q hq).2.extBut hs₅.extBut (hrow₄ q hq).1⟩
    have hlr₅ := hlr₄.extBut hs₅.extBut hrD
    have hcl₅ : h₅.IsCell (L + 1) (some (.ref cx)) := Mine.News.cellIs N₅ (o := o4) (by first | k_memK | simp) (by rw [d4, hfh]; rfl)
    clear N₄ F₄ hrow₄ hlr₄ hcl eD hs₅ ho₅
    dsimp only
    -- rows = [row[1:] if row[0] is head else row for row in rows]
    have hr₅ : RowsAt h₅ r' rows' := ⟨hlr₅, fun q hq => (hrow₅ q hq).2⟩
    refine wpAny_execs_cons ?_
    refine compRA (s := { s with heap := h₅, toks := _ }) (fun _ => true) (fun _ _ => False) (fun v T its => T ≠ D ∧ ∃ q ∈ rows', v = .ref q.1 ∧ its = if q.2.head? = some (Value.ref cx) then q.2.drop 1 else q.2) (cl := [("head", L + 1)]) rfl hh rfl (by decide) rfl (by decide) rfl rfl rfl ?_
    refine nameLoc (v := .ref r') F₅.ns hmr ?_
    refine ⟨r', rows'.map fun q => Value.ref q.1, _, rfl, hlr₅, by simp [sizeLine]; omega, F₅.ns, ?_, ?_, ?_⟩
    · intro C' v s₃ m₃ E' hv F₃' hm₃
      exact wpAny_pure ⟨rfl, _, _, rfl, fun _ _ e => e⟩
    · intro C' v s₃ m₃ E' hv _ F₃' hm₃
      obtain ⟨q, hq, rfl⟩ := List.mem_map.mp hv
      have hlq := F₃'.lst (hrow₅ q hq).2
      obtain ⟨y, ys, hy⟩ : ∃ y ys, q.2 = y :: ys := by
        cases e : q.2 with
        | nil => exact absurd e (hcon q.2 (List.mem_map_of_mem hq)).1
        | cons y ys => exact ⟨y, ys, rfl⟩
      obtain ⟨cy, rfl, hDy⟩ := (hcon q.2 (List.mem_map_of_mem hq)).2 y (by rw [hy]; exact .head _)
      have upS : ∀ b o, s.heap.get? b = some o → s₃.heap.get? b = some o := fun b o e => F₃'.keep b o (F₅.keep b o e)
      obtain ⟨oy, hoy, hcy⟩ := hDy.keeps upS
      obtain ⟨ox, hox, hcx⟩ := hDx.keeps upS
      refine IfExp_ (wpAny_isTrue_Compare1 (subK (k := 0) (nameLoc (m := m₃) F₃'.ns hm₃ ⟨q.1, q.2, .ref cy, rfl, hlq, by rw [hy]; rfl, fun tk₆ => ?_⟩)))
      refine nameCell (c := L + 1) rfl (cellKeeps hcl₅ F₃'.keep) ?_
      by_cases e : cy = cx
      · subst e
        refine wpAny_is_ref_self (wpAny_truthy_bool ?_)
        simp only [if_true]
        refine slice1 (nameLoc (m := m₃) F₃'.ns hm₃ ⟨q.1, q.2, rfl, hlq, by have := hql' q hq; simp [sizeLine]; omega, fun T h₆ tk₆ hT hpl hk => ?_⟩)
        refine ⟨.inr ⟨T, q.2.drop 1, rfl, .inr hT, hpl.isList, ?_, q, hq, rfl, by rw [hy]; simp⟩, _, _, rfl, hk⟩
        intro z
        have hT : s₃.heap.get? T = none := hT
        have e1 := F₃'.keep _ _ (N₅ (D, listOf ((List.toArray found).push (Value.ref cy)) (n + 1)) (.head _)).1
        rw [← z, hT] at e1; cases e1
      · refine wpAny_is_ref_other e hoy hox (by rw [hcy]; exact fun z => nomatch z) (wpAny_truthy_bool ?_)
        simp only [Bool.false_eq_true, if_false]
        obtain ⟨oq, hoq, _⟩ := (hrow₅ q hq).2
        refine nameLoc (m := m₃) F₃'.ns hm₃ ⟨.inr ⟨q.1, q.2, rfl, .inl ⟨oq, hoq⟩, hlq, (hrow₅ q hq).1, q, hq, rfl, ?_⟩, _, _, rfl, fun _ _ e => e⟩
        rw [if_neg]
        rw [hy]
        intro z
        injection z with z
        injection z with z
        exact e z
    intro r₆ h₆ tk₆ ys hr₆ hpl hP hlen₆ hn₆ hk₆
    dsimp only at hr₆ hk₆ hlen₆ hn₆ ⊢
    have hft : (rows'.map fun q => Value.ref q.1).filter (fun _ => true) = rows'.map fun q => Value.ref q.1 := by simp
    rw [hft] at hP
    obtain ⟨rows₆, rfl, hsnd₆, hrow₆⟩ := rowsOf (fun l => if l.head? = some (Value.ref cx) then l.drop 1 else l) hP (fun q hq T its hT => by
      obtain ⟨h1, q', hq', e1, e2⟩ := hT
      have e1 : q.1 = q'.1 := by injection e1
      have := (hrow₅ q' hq').2
      rw [← e1] at this
      rw [isListUniq this (hrow₅ q hq).2] at e2
      exact ⟨h1, e2⟩)
    clear hP hft
    have F₆ := frLoc F₅ hn₆ hk₆
    have N₆ := newsLoc N₅ hk₆
    have hr₆D : r₆ ≠ D := fun z => by rw [z, (N₅ (D, listOf ((List.toArray found).push (Value.ref cx)) (n + 1)) (.head _)).1] at hr₆; cases hr₆
    have hsum₆ : ((rows₆.map Prod.snd).map List.length).sum ≤ ((rows'.map Prod.snd).map List.length).sum := by
      have e : rows₆.map Prod.snd = (rows'.map Prod.snd).map fun l => if l.head? = some (Value.ref cx) then l.drop 1 else l := by rw [hsnd₆, List.map_map]; rfl
      rw [e]
      exact sum_step_le _ _
    have hql₆ : ∀ q ∈ rows₆, q.2.length ≤ 1000000 := fun q hq => by
      have : q.2.length ≤ ((rows₆.map Prod.snd).map List.length).sum := memLeSum (List.mem_map_of_mem (List.mem_map_of_mem hq))
      omega
    have hlen₆' : rows₆.length ≤ 1000000 := by
      have := congrArg List.length hsnd₆
      simp only [List.length_map] at this
      omega
    clear F₅ N₅ hn₆ hk₆ hrow₅ hr₅ hlr₅ hcl₅ hr₆ hlen₆
    -- rows = [row for row in rows if row]
    refine wpAny_execs_cons ?_
    refine compRA (s := { s with heap := h₆, toks := tk₆ }) (rowHas rows₆ fun l => !l.isEmpty) (fun v y => y = v) (fun _ _ _ => False) (cl := []) rfl hh rfl (by decide) rfl (by decide) rfl rfl rfl ?_
    refine nameLoc (v := .ref r₆) F₆.ns setEq ?_
    refine ⟨r₆, rows₆.map fun q => Value.ref q.1, _, rfl, hpl.isList, by simp [sizeLine]; omega, F₆.ns, ?_, ?_, ?_⟩
    · intro C' v s₃ m₃ E' hv F₃' hm₃
      obtain ⟨q, hq, rfl⟩ := List.mem_map.mp hv
      refine wpAny_tests_one (isTrue_plain (nameLoc (m := m₃) F₃'.ns hm₃ (wpAny_truthy_list (F₃'.lst (hrow₆ q hq).2) (by have := hql₆ q hq; rw [List.size_toArray]; omega) ⟨?_, keepsTok⟩)))
      rw [rowHas_at (fun q hq => (hrow₆ q hq).2) hq, toList_isEmpty]
    · intro C' v s₃ m₃ E' hv _ F₃' hm₃
      exact nameLoc (m := m₃) F₃'.ns hm₃ ⟨.inl rfl, _, _, rfl, fun _ _ e => e⟩
    intro r₇ h₇ tk₇ ys hr₇ hpl₇ hP hlen₇ hn₇ hk₇
    dsimp only at hr₇ hk₇ hlen₇ hn₇ ⊢
    have hys := pairedEq hP
    subst hys
    clear hP
    rw [rowHas_filter (fun q hq => (hrow₆ q hq).2)] at hpl₇ hlen₇
    have F₇ := frLoc F₆ hn₇ hk₇
    have N₇ := newsLoc N₆ hk₇
    have hr₇D : r₇ ≠ D := fun z => by rw [z, (N₆ (D, listOf ((List.toArray found).push (Value.ref cx)) (n + 1)) (.head _)).1] at hr₇; cases hr₇
    have hsnd₇ : (rows₆.filter fun q => !q.2.isEmpty).map Prod.snd = stepRows (Value.ref cx) (rows'.map Prod.snd) := by
      have : (rows₆.filter fun q => !q.2.isEmpty).map Prod.snd = (rows₆.map Prod.snd).filter fun l => !l.isEmpty := by rw [List.filter_map]; rfl
      rw [this, hsnd₆, stepRows, List.map_map]; rfl
    refine wpAny_execs_nil ?_
    have hD7 : (D, listOf ((List.toArray found).push (Value.ref cx)) (n + 1)) = (D, listOf (List.toArray (found ++ [Value.ref cx])) (n + 1)) := by simp
    rw [hD7] at N₇
    refine ⟨k, h₇, tk₇, _, _, Nat.lt_succ_self _, rfl, F₇, (fun p hp => N₇ p (by simp only [List.mem_cons, List.not_mem_nil, or_false] at hp ⊢; rcases hp with h | h <;> simp [h])), hmL, hmD, r₇, rows₆.filter (fun q => !q.2.isEmpty), found ++ [Value.ref cx], n + 1, o4, _, if_pos rfl, rfl, d4, hpl₇.isList, hr₇D, ?_, ?_, ?_, ?_, ?_, ?_⟩
    · intro q hq
      obtain ⟨hq, _⟩ := List.mem_filter.mp hq
      refine ⟨(hrow₆ q hq).1, (hrow₆ q hq).2.at fun o e => hk₇ _ o (fun z => isList_ne_ns (hrow₆ q hq).2 F₆.ns (List.mem_singleton.mp z)) e⟩
    · rw [hsnd₇]
      intro l hl'
      obtain ⟨hl', e⟩ := List.mem_filter.mp hl'
      obtain ⟨l₀, hl₀, rfl⟩ := List.mem_map.mp hl'
      refine ⟨fun z => by rw [z] at e; simp at e, ?_⟩
      split
      · exact fun v hv => (hcon l₀ hl₀).2 v (List.mem_of_mem_drop hv)
      · exact (hcon l₀ hl₀).2
    · exact Nat.le_trans (List.length_filter_le _ _) hlen₆'
    · rw [hsnd₇]; omega
    · rw [hsnd₇, List.length_append, List.length_singleton]; omega
    · rw [hsnd₇]; exact hmg
end Mine

-- MLin
namespace Mine
open PySem.Calls PySem.Challenge
section
variable {prog : Program} {w : World} {A : Around} {E : Value → Shared → Prop} {s : Shared} {env : Env}
theorem sliceRevA {value : Expr} {j : Nat} {p p2 p3 pos : Pos} {Q : Value → Shared → Prop}
    (h : wpAny (model prog w) A (eval value env) (fun o s₁ => ∃ (l : Addr) (vs : List Value), o = .ref l ∧ s₁.heap.IsList l (List.toArray vs) ∧ vs.length ≤ sizeLine ∧
      (∀ D h' tk, s₁.heap.get? D = none → h'.PlainList D (List.toArray vs.reverse) → s₁.heap.StaysIn h' → Q (.ref D) { s₁ with heap := h', toks := tk })) E s) :
    wpAny (model prog w) A (eval (.Subscript value (.Slice none none (some (.UnaryOp .USub (.Constant (.int 1) j p) p3)) p2) pos) env) Q E s := by
  refine Subscript_ (wpAny_mono h (fun o s₁ h₁ => ?_) fun _ _ e => e)
  obtain ⟨l, vs, rfl, hl, hsz, hQ⟩ := h₁
  refine wpAny_Slice (wpAny_pure (wpAny_pure ?_))
  refine wpAny_UnaryOp (wpAny_Constant_int (PyProof.Rows.neg_int ?_))
  have hl' := hl.push { cls := .type "slice", data := .fields #[.none, .none, .int (-1) (s₁.toks + 1)] }
  refine tail_any (s := { s₁ with heap := _, toks := _ }) (hl'.typeIs (s := { s₁ with heap := _, toks := _ })) slot_list_getitem.lookup (wpAny_getItem_list_slice (s := { s₁ with heap := _, toks := _ }) hl' (Heap.IsSliceOf.new ..) .none .none (.int (-1) _) (by first | k_memK | simp) ?_ (by rw [List.size_toArray]; exact hsz)) rfl
  rw [krv_pick]
  refine hQ _ _ _ ?_ ⟨0, Heap.get?_push_size _ rfl⟩ fun b o e => Heap.get?_push_of_some _ (Heap.get?_push_of_some _ e)
  exact none_of_le (by rw [Heap.size_push]; exact Nat.le_succ _)
end
structure Base where
  at_ : Addr
  lin : Addr
  its : List Value
def BasesOk (h : Heap) (bases : List Base) : Prop := ∀ b ∈ bases, FieldAt h b.at_ "linear" (.ref b.lin) ∧ h.IsList b.lin (List.toArray b.its) ∧ DeclsAre h b.its
theorem BasesOk.keeps {h h' : Heap} {bases : List Base} (x : BasesOk h bases) (k : ∀ b o, h.get? b = some o → h'.get? b = some o) : BasesOk h' bases := fun b hb => let ⟨a, c, d⟩ := x b hb; ⟨a.keeps k, c.at fun o e => k _ o e, d.keeps k⟩
def rowsFor (near : List Base) : List (List Value) := near.map Base.its ++ [near.map fun b => Value.ref b.at_]

theorem FieldAt.uniq {h : Heap} {c : Addr} {name : Str} {v v' : Value} (x : FieldAt h c name v) (y : FieldAt h c name v') : v = v' := by
  obtain ⟨dx, es, n, a, b, e⟩ := x
  obtain ⟨dx', es', n', a', b', e'⟩ := y
  rw [a] at a'
  have : dx = dx' := by injection a' with a'; injection a' with _ a'; injection a'
  subst this
  rw [b] at b'
  have h1 : es = es' := by
    have := congrArg (fun o => match o with | some (⟨_, _, .dict es _, _⟩ : Obj) => es.toList | _ => []) b'
    simpa using this
  subst h1
  rw [e] at e'
  injection e' with e'
  injection e'
theorem linsOf {h : Heap} {bases : List Base} : ∀ {near : List Base} {ys : List Value}, (∀ b ∈ near, b ∈ bases) → Paired (EltIs (fun v y => ∀ b ∈ bases, v = Value.ref b.at_ → y = .ref b.lin) (fun _ _ _ => False) h) (near.map fun b => Value.ref b.at_) ys → ys = near.map fun b => Value.ref b.lin
  | [], ys, _, P => by cases P; rfl
  | b :: near, ys, hb, P => by
    cases P with
    | cons hy P =>
      rw [linsOf (fun b' h' => hb b' (.tail _ h')) P]
      rcases hy with hy | ⟨_, _, _, _, hy⟩
      · rw [hy b (hb b (.head _)) rfl]; rfl
      · exact hy.elim

theorem mergeLoop_len {α : Type} [DecidableEq α] : ∀ (k : Nat) (rows : List (List α)) (found r : List α), mergeLoop k rows found = some r → r.length ≤ found.length + (rows.map List.length).sum
  | 0, rows, found, r, h => by
    simp only [mergeLoop] at h
    split at h
    · cases h; omega
    · cases h
  | k + 1, rows, found, r, h => by
    simp only [mergeLoop] at h
    split at h
    · cases h; omega
    · cases hf : freeHead rows with
      | none => rw [hf] at h; cases h
      | some x =>
        rw [hf] at h
        have := mergeLoop_len k _ _ r h
        have := stepRows_lt hf
        rw [List.length_append, List.length_singleton] at *
        omega
theorem merged_len {α : Type} [DecidableEq α] {rows : List (List α)} {r : List α} (h : merged rows = some r) : r.length ≤ (rows.map List.length).sum := by
  have := mergeLoop_len _ _ _ _ h
  have := sum_filter_le rows
  simp only [List.length_nil] at *
  omega

theorem linearised_spec {w : World} {A : Around} {s : Shared} {R : Result → Shared → Prop} {c bs : Addr} {line : Value} {bases : List Base} {outer : List Env} (C : Cx w s.heap) (hh : A.handled = none) (hdp : A.depth + 30 < recursionLimit) (hu : A.units + 300 < cLine)
    (hfr : A.frames = some outer) (hl : s.heap.FunFrames noHeap outer)
    (hb : FieldAt s.heap c "bases" (.ref bs)) (hbs : s.heap.IsList bs (List.toArray (bases.map fun b => Value.ref b.at_))) (hok : BasesOk s.heap bases) (hln : FieldAt s.heap c "line" line) (hlh : handedIn line = true)
    (hsz : bases.length ≤ 100) (hsum : ((bases.map Base.its).map List.length).sum ≤ 500000)
    (hR : ∀ h' tk D found, merged (rowsFor bases.reverse) = some found → s.heap.StaysIn h' → s.heap.get? D = none → h'.PlainList D (List.toArray (.ref c :: found)) → R (.ok (.ret (.ref D))) { s with heap := h', toks := tk })
    (hX : ∀ h' tk e, merged (rowsFor bases.reverse) = none → Fault outer s.heap h' e line → R (.error (.ref e)) { s with heap := h', toks := tk }) :
    codeAny (model rw_pq0388_01.row.prog w) A (.call (.ref 80) ⟨[.ref c], []⟩) R s := by
  refine enterP C.lim (C.X 80 _ rfl) rfl (codeRec_of C.X rfl) (by omega) (BindsTo.of_eq rfl) (locs rfl) ?_ (by decide)
  intro L h₁ tk F hL
  refine wpAny_execs_cons (wpAny_Assign_Name ?_)
  refine sliceRevA (Attribute_Name_ (nameLoc (v := .ref c) F.ns rfl (attrGet (C.X.keeps F.keep) (hb.keeps F.keep) fun tk₂ => ?_)))
  refine ⟨bs, _, rfl, F.lst hbs, by simp [sizeLine]; omega, fun N h₂ tk₂' hN hplN hkN => ?_⟩
  dsimp only at hN hkN ⊢
  have F₂ := F.keptAll hkN
  obtain ⟨nN, hplN⟩ := hplN
  have N₂ := newsAdd F (News.nil) hkN hN hplN
  refine stLoc F₂ N₂ fun h₃ tk₃ F₃ N₃ => ?_
  clear N₂ F₂ hplN hkN
  refine wpAny_execs_cons (wpAny_Return_some (wpAny_BinOp ?_))
  refine List_ (spliced_more (nameLoc (v := .ref c) F₃.ns rfl (spliced_none (newList_K F₃ N₃ (fun P h₄ F₄ N₄ hP₄ => ?_) (by simp [sizeLine])))))
  refine Call_ (nameGlob (C.keeps F₄.keep) (v := .ref 75) rfl (callWith_K (K := KK w) C.X rfl (spliced_more (wpAny_BinOp ?_))))
  -- [base.linear for base in near_first]
  have hNL : h₄.IsList N (List.toArray (bases.map fun b => Value.ref b.at_).reverse) := ⟨_, (N₄ (N, listOf (List.toArray (bases.map fun b => Value.ref b.at_).reverse) nN) (by first | k_memK | simp)).1, rfl, nN, rfl⟩
  have hnear : (bases.map fun b => Value.ref b.at_).reverse = bases.reverse.map fun b => Value.ref b.at_ := by rw [List.map_reverse]
  rw [hnear] at hNL
  have hmemr : ∀ b ∈ bases.reverse, b ∈ bases := fun b hb' => List.mem_reverse.mp hb'
  refine compR (s := { s with heap := h₄, toks := _ }) (fun _ => true) (fun v y => ∀ b ∈ bases, v = Value.ref b.at_ → y = .ref b.lin) (fun _ _ _ => False) hh (cl := []) rfl (by decide) rfl (by decide) rfl ?_
  refine nameLoc (v := .ref N) F₄.ns (if_pos rfl) ⟨N, _, rfl, hNL, by simp [sizeLine]; omega, ?_, ?_, ?_⟩
  · intro C' v s₃ m₃ E' hv F₃' hm₃
    exact wpAny_pure ⟨rfl, _, _, rfl, fun _ _ e => e⟩
  · intro C' v s₃ m₃ E' hv _ F₃' hm₃
    obtain ⟨b, hb', rfl⟩ := List.mem_map.mp hv
    have upS : ∀ b o, s.heap.get? b = some o → s₃.heap.get? b = some o := fun b o e => F₃'.keep b o (F₄.keep b o e)
    refine Attribute_Name_ (nameLoc (m := m₃) F₃'.ns hm₃ (attrGet (C.X.keeps upS) ((hok b (hmemr b hb')).1.keeps upS) fun tk₅ => ?_))
    refine ⟨.inl fun b' hb'' e => ?_, keepsTok⟩
    have e : b.at_ = b'.at_ := by injection e
    have h2 := (hok b' hb'').1
    rw [← e] at h2
    exact FieldAt.uniq (hok b (hmemr b hb')).1 h2
  intro G h₅ tk₅ ys hG hplG hP hlen₅ hk₅
  dsimp only at hG hk₅ ⊢
  have hft : (bases.reverse.map fun b => Value.ref b.at_).filter (fun _ => true) = bases.reverse.map fun b => Value.ref b.at_ := by simp
  rw [hft] at hP
  have hys := linsOf hmemr hP
  subst hys
  clear hP hft
  obtain ⟨nG, hplG⟩ := hplG
  have F₅ := F₄.keptAll hk₅
  have N₅ := newsAdd F₄ N₄ hk₅ hG hplG
  clear N₄ hk₅
  -- + [near_first]
  refine List_ (spliced_more (nameLoc (v := .ref N) F₅.ns (if_pos rfl) (spliced_none (newList_K (s := { s with heap := h₅, toks := _ }) F₅ N₅ (fun T h₆ F₆ N₆ hT₆ => ?_) (by simp [sizeLine])))))
  refine add_arrays (s := { s with heap := h₆, toks := _ }) F₆ N₆ (its := List.toArray (bases.reverse.map fun b => Value.ref b.lin)) ⟨_, (N₆ (G, listOf (List.toArray (bases.reverse.map fun b => Value.ref b.lin)) nG) (by first | k_memK | simp)).1, rfl, nG, rfl⟩ (its2 := List.toArray [Value.ref N]) ⟨_, (N₆ (T, listOf (List.toArray [Value.ref N]) 0) (by first | k_memK | simp)).1, rfl, 0, rfl⟩ (fun h₇ F₇ N₇ => ?_) (by simp [sizeLine]; omega)
  -- contract.line
  refine spliced_more (Attribute_Name_ (nameLoc (s := { s with heap := h₇, toks := _ }) (v := .ref c) F₇.ns rfl (attrGet (C.X.keeps F₇.keep) (hln.keeps F₇.keep) (fun tk₈ => ?_) (by rfl) hlh)))
  refine spliced_none ⟨C.X.keeps F₇.keep, wpAny_call ?_⟩
  have hGl := (N₇ _ (.head _)).1
  have hrows : (bases.reverse.map (fun b => (b.lin, b.its)) ++ [(N, bases.reverse.map fun b => Value.ref b.at_)]).map Prod.snd = rowsFor bases.reverse := by
    simp [rowsFor]
  have hN7 : h₇.IsList N (List.toArray (bases.reverse.map fun b => Value.ref b.at_)) := by
    rw [← hnear]
    exact ⟨_, (N₇ (N, listOf (List.toArray (bases.map fun b => Value.ref b.at_).reverse) nN) (by first | k_memK | simp)).1, rfl, nN, rfl⟩
  have hlenr : (bases.reverse.map (fun b => (b.lin, b.its)) ++ [(N, bases.reverse.map fun b => Value.ref b.at_)]).length ≤ 1000000 := by simp; omega
  have hsumr : (((bases.reverse.map (fun b => (b.lin, b.its)) ++ [(N, bases.reverse.map fun b => Value.ref b.at_)]).map Prod.snd).map List.length).sum ≤ 1000000 := by
    rw [hrows]
    simp only [rowsFor, List.map_append, List.map_cons, List.map_nil, List.sum_append, List.sum_cons, List.sum_nil, List.length_map, List.length_reverse]
    have : ((bases.reverse.map Base.its).map List.length).sum = ((bases.map Base.its).map List.length).sum := by
      rw [List.map_reverse, List.map_reverse, List.sum_reverse]
    omega
  refine merged_spec (s := { s with heap := h₇, toks := tk₈ }) (rows := bases.reverse.map (fun b => (b.lin, b.its)) ++ [(N, bases.reverse.map fun b => Value.ref b.at_)]) (C.keeps F₇.keep) hh (by show A.depth + 1 + 20 < recursionLimit; omega) (by show A.units + 3 + 200 < cLine; omega)
    (Around.frames_deeper hfr) (funFrames_push (s := { s with heap := h₇, toks := tk₈ }) hl F₇ rfl (fun z => nomatch z)) ⟨⟨_, hGl, rfl, 0, ?_⟩, ?_⟩ ?_ hlenr hsumr ?_ ?_
  · simp
  · intro q hq
    rcases List.mem_append.mp hq with hq | hq
    · obtain ⟨b, hb', rfl⟩ := List.mem_map.mp hq
      exact F₇.lst (hok b (hmemr b hb')).2.1
    · rw [List.mem_singleton.mp hq]; exact hN7
  · intro q hq
    rcases List.mem_append.mp hq with hq | hq
    · obtain ⟨b, hb', rfl⟩ := List.mem_map.mp hq
      exact (hok b (hmemr b hb')).2.2.keeps F₇.keep
    · rw [List.mem_singleton.mp hq]
      intro v hv
      obtain ⟨b, hb', rfl⟩ := List.mem_map.mp hv
      exact ⟨b.at_, rfl, (hok b (hmemr b hb')).1.decl.keeps F₇.keep⟩
  · intro h₈ tk₉ D found hmg hk₈ hD hplD
    rw [hrows] at hmg
    dsimp only at hk₈ hD ⊢
    obtain ⟨nD, hplD⟩ := hplD
    have F₈ := F₇.keptAll hk₈
    have N₈ := newsAdd F₇ N₇ hk₈ hD hplD
    refine add_arrays (s := { s with heap := h₈, toks := _ }) F₈ N₈ (its := List.toArray [Value.ref c]) (its2 := List.toArray found) ⟨_, (N₈ (P, listOf (List.toArray [Value.ref c]) 0) (by first | k_memK | simp)).1, rfl, 0, rfl⟩ ⟨_, (N₈ (D, listOf (List.toArray found) nD) (by first | k_memK | simp)).1, rfl, nD, rfl⟩ (fun h₉ F₉ N₉ => ?_) ?_
    · have e := N₉ _ (.head _)
      exact hR h₉ _ _ found hmg F₉.keep e.2.2 ⟨0, e.1⟩
    · have := merged_len hmg
      rw [hrows] at hsumr
      simp [sizeLine]; omega
  · intro h₈ tk₉ e hmg X
    rw [hrows] at hmg
    exact leaveOn (Around.frames_deeper hfr) rfl F₇ X fun h₉ X' => hX h₉ _ e hmg X'
end Mine

-- MDraw
namespace Mine
open PySem.Calls PySem.Challenge
theorem b2 : bootBuiltins "len" = some (.builtin "len") := by kernel_rfl
/-- the drawing well of the law's -/
def WellAt (h : Heap) (gl well : Addr) : Prop := ∃ i t st u vs ns, h.IsList well (List.toArray [.ref gl, .int i t, .int st u]) ∧ h.IsList gl (List.toArray vs) ∧ IntsAre vs ns ∧ vs.length ≤ 63 ∧ 0 ≤ i ∧ gl ≠ well
theorem WellAt.keeps {h h' : Heap} {gl well : Addr} (x : WellAt h gl well) (k : ∀ b o, h.get? b = some o → h'.get? b = some o) : WellAt h' gl well :=
  let ⟨i, t, st, u, vs, ns, a, b, c, d, e, f⟩ := x; ⟨i, t, st, u, vs, ns, a.at fun o q => k _ o q, b.at fun o q => k _ o q, c, d, e, f⟩
section
variable {prog : Program} {w : World} {A : Around} {E : Value → Shared → Prop} {s : Shared} {env : Env}
theorem putAt {o value : Expr} {pos' pos : Pos} {Q : Flow → Shared → Prop} {k : Nat} {j : Nat} {p : Pos}
    (h : wpAny (model prog w) A (eval value env) (fun v s₁ => wpAny (model prog w) A (eval o env) (fun ov s₂ => ∃ (l : Addr) (items : List Value), ov = .ref l ∧ s₂.heap.IsList l (List.toArray items) ∧ k < items.length ∧
      (∀ h' tk, h'.IsList l (List.toArray (items.set k v)) → Heap.SameBut l s₂.heap h' → Q .next { s₂ with heap := h', toks := tk })) E s₁) E s)
    (hk : (k : Int) < 2 ^ 63 := by decide)
    (hs : swapsWith value (some (.Subscript o (.Constant (.int (k : Int)) j p) pos')) pos.line env = pure false := by rfl) :
    wpAny (model prog w) A (exec (.Assign [.Subscript o (.Constant (.int (k : Int)) j p) pos'] value pos) env) Q E s := by
  refine wpAny_Assign_Subscript (wpAny_mono h (fun v s₁ h₁ => wpAny_mono h₁ (fun ov s₂ h₂ => ?_) fun _ _ e => e) fun _ _ e => e) hs
  obtain ⟨l, items, rfl, hl, hlt, hQ⟩ := h₂
  refine wpAny_Constant_int ?_
  have hl' : ({ s₂ with toks := s₂.toks + 1 } : Shared).heap.IsList l (List.toArray items) := hl
  exact wpAny_setItem_list hl' (Int.natCast_nonneg k) hk (by simp only [List.size_toArray]; exact_mod_cast hlt) fun h' a b => hQ h' _ (by simpa using a) b
end

theorem draw_spec {w : World} {A : Around} {s : Shared} {R : Result → Shared → Prop} {gl well : Addr} {size : Int} {t : Tok} (C : Cx w s.heap) (hdp : A.depth < recursionLimit) (hw : WellAt s.heap gl well) (hs : 0 < size)
    (hR : ∀ h' tk r u, StaysBut [well] s.heap h' → WellAt h' gl well → 0 ≤ r → r < size → R (.ok (.ret (.int r u))) { s with heap := h', toks := tk }) :
    codeAny (model rw_pq0388_01.row.prog w) A (.call (.ref 120) ⟨[.ref well, .int size t], []⟩) R s := by
  refine enterP C.lim (C.X 120 _ rfl) rfl (codeRec_of C.X rfl) hdp (BindsTo.of_eq rfl) (locs rfl) ?_ (by decide)
  intro L h₁ tk F hL
  refine wpAny_noRaise ?_
  obtain ⟨i, ti, st, u, vs, ns, hwl, hgl, hin, hlen, hi, hne⟩ := hw
  have hLw : L ≠ well := fun z => by
    obtain ⟨o, e, _⟩ := hwl
    have := ltS e
    rw [← z, hL] at this
    exact Nat.lt_irrefl _ this
  have hLg : L ≠ gl := fun z => by
    obtain ⟨o, e, _⟩ := hgl
    have := ltS e
    rw [← z, hL] at this
    exact Nat.lt_irrefl _ this
  have hwl₁ := F.lst hwl
  have hgl₁ := F.lst hgl
  have hLn : s.heap.get? L = none := none_of_le (by rw [hL]; exact Nat.le_refl _)
  refine wpAny_execs_cons (wpAny_If (wpAny_isTrue_Compare1 (subK (k := 1) (nameLoc (v := .ref well) F.ns rfl ⟨well, _, _, rfl, hwl₁, rfl, fun tk₂ => ?_⟩))))
  refine Call_ (nameBuiltin (s := { s with heap := h₁, toks := tk₂ }) (C.keeps F.keep) (v := .builtin "len") rfl b2 (callWith_method1 (spliced_more (subK (k := 0) (nameLoc (v := .ref well) F.ns rfl ⟨well, _, _, rfl, hwl₁, rfl, fun tk₃ => spliced_none ?_⟩)))))
  refine len_list (s := { s with heap := h₁, toks := tk₃ }) hgl₁ (by rw [List.size_toArray]; omega) ?_
  refine PySem.P.lt_int (wpAny_truthy_bool ?_)
  by_cases hlt : i < (vs.toArray.size : Int)
  · rw [decide_eq_true hlt]
    simp only [if_true]
    have hi2 : i.toNat < vs.length := by rw [List.size_toArray] at hlt; omega
    obtain ⟨g, tg, hg⟩ := hin.all vs[i.toNat] (List.getElem_mem hi2)
    have hget : vs[i.toNat]? = some (.int g tg) := by rw [List.getElem?_eq_getElem hi2, hg]
    -- given = well[0][well[1]]
    refine wpAny_execs_cons (wpAny_Assign_Name ?_)
    refine subI (subK (k := 0) (nameLoc (v := .ref well) F.ns rfl ⟨well, _, _, rfl, hwl₁, rfl, fun tk₄ => ?_⟩))
    refine subK (k := 1) (nameLoc (v := .ref well) F.ns rfl ⟨well, _, _, rfl, hwl₁, rfl, fun tk₅ => ?_⟩)
    refine ⟨gl, vs, i, ti, _, rfl, rfl, hgl₁, hi, by omega, hget, ?_⟩
    refine wpAny_storeName_local (s := { s with heap := h₁, toks := tk₅ }) rfl F.ns (fun h₂ hn₂ hs₂ => ?_) rfl
    have hwl₂ := hwl₁.extBut hs₂.extBut (Ne.symm hLw)
    have hgl₂ := hgl₁.extBut hs₂.extBut (Ne.symm hLg)
    have k₂ : StaysBut [well] s.heap h₂ := fun b o hb e => hs₂.extBut b o (fun z => by rw [z] at e; have hLn' : s.heap.get? L = none := hLn; exact absurd (e.symm.trans hLn') (fun z => nomatch z)) (F.keep b o e)
    -- well[1] = well[1] + 1
    refine wpAny_execs_cons (putAt (k := 1) (wpAny_BinOp (subK (k := 1) (nameLoc (v := .ref well) hn₂ rfl ⟨well, _, _, rfl, hwl₂, rfl, fun tk₆ => ?_⟩))))
    refine wpAny_Constant_int (PySem.P.add_int ?_)
    refine nameLoc (v := .ref well) hn₂ rfl ⟨well, _, rfl, hwl₂, by simp, fun h₃ tk₇ hwl₃ hs₃ => ?_⟩
    dsimp only at hs₃
    have hn₃ := hn₂.sameBut hs₃ hLw
    have hgl₃ := hgl₂.extBut hs₃.extBut hne
    have k₃ : StaysBut [well] s.heap h₃ := k₂.trans fun b o hb e => hs₃.extBut b o (fun z => hb (by simp [z])) e
    -- well[2] = (well[2] * 31 + given + 7) % 997
    refine wpAny_execs_cons (putAt (k := 2) (wpAny_BinOp (wpAny_BinOp (wpAny_BinOp (wpAny_BinOp (subK (k := 2) (nameLoc (v := .ref well) hn₃ rfl ⟨well, _, _, rfl, hwl₃, rfl, fun tk₈ => ?_⟩)))))))
    refine wpAny_Constant_int (PySem.P.mul_int ?_ (IntMulOk.of_right (by decide)))
    refine nameLoc (v := .int g tg) hn₃ rfl (PySem.P.add_int ?_)
    refine wpAny_Constant_int (PySem.P.add_int ?_)
    refine wpAny_Constant_int (mod_int' (by decide) ?_)
    refine nameLoc (v := .ref well) hn₃ rfl ⟨well, _, rfl, hwl₃, by simp, fun h₄ tk₉ hwl₄ hs₄ => ?_⟩
    dsimp only at hs₄
    have hn₄ := hn₃.sameBut hs₄ hLw
    have hgl₄ := hgl₃.extBut hs₄.extBut hne
    have k₄ : StaysBut [well] s.heap h₄ := k₃.trans fun b o hb e => hs₄.extBut b o (fun z => hb (by simp [z])) e
    refine wpAny_execs_cons (wpAny_Return_some (wpAny_BinOp (nameLoc (v := .int g tg) hn₄ rfl (nameLoc (v := .int size t) hn₄ rfl (mod_int' (by omega) ?_)))))
    exact hR h₄ _ _ _ k₄ ⟨_, _, _, _, vs, ns, hwl₄, hgl₄, hin, hlen, by omega, hne⟩ (by rw [Int.fmod_eq_emod_of_nonneg _ (Int.le_of_lt hs)]; exact Int.emod_nonneg _ (by omega)) (Int.fmod_lt_of_pos _ hs)
  · rw [decide_eq_false hlt]
    simp only [Bool.false_eq_true, if_false]
    refine wpAny_execs_nil ?_
    refine wpAny_execs_cons (putAt (k := 2) (wpAny_BinOp (wpAny_BinOp (wpAny_BinOp (subK (k := 2) (nameLoc (v := .ref well) F.ns rfl ⟨well, _, _, rfl, hwl₁, rfl, fun tk₈ => ?_⟩))))))
    refine wpAny_Constant_int (PySem.P.mul_int ?_ (IntMulOk.of_right (by decide)))
    refine wpAny_Constant_int (PySem.P.add_int ?_)
    refine wpAny_Constant_int (mod_int' (by decide) ?_)
    refine nameLoc (v := .ref well) F.ns rfl ⟨well, _, rfl, hwl₁, by simp, fun h₄ tk₉ hwl₄ hs₄ => ?_⟩
    dsimp only at hs₄
    have hn₄ := F.ns.sameBut hs₄ hLw
    have hgl₄ := hgl₁.extBut hs₄.extBut hne
    have k₄ : StaysBut [well] s.heap h₄ := fun b o hb e => hs₄.extBut b o (fun z => hb (by simp [z])) (F.keep b o e)
    refine wpAny_execs_cons (wpAny_Return_some (wpAny_BinOp (subK (k := 2) (nameLoc (v := .ref well) hn₄ rfl ⟨well, _, _, rfl, hwl₄, rfl, fun tk₁₀ => ?_⟩))))
    refine nameLoc (v := .int size t) hn₄ rfl (mod_int' (by omega) ?_)
    exact hR h₄ _ _ _ k₄ ⟨_, _, _, _, vs, ns, hwl₄, hgl₄, hin, hlen, hi, hne⟩ (by rw [Int.fmod_eq_emod_of_nonneg _ (Int.le_of_lt hs)]; exact Int.emod_nonneg _ (by omega)) (Int.fmod_lt_of_pos _ hs)
end Mine

-- MDecl
namespace Mine
open PySem.Calls PySem.Challenge Builtin Builtin.ObjectAttr
abbrev strKeysL (es : List DictEntry) : Bool := es.all fun e => match e.key with | .str _ _ => true | _ => false
theorem putL_all {name : Str} {hsh : Int} {tk : Tok} {v : Value} : ∀ {es : List DictEntry}, strKeysL es = true → strKeysL (putL name hsh (.str name tk) v es) = true
  | [], _ => rfl
  | e :: r, h => by
    simp only [strKeysL, List.all_cons, Bool.and_eq_true] at h
    simp only [putL]
    split
    · simp only [strKeysL, List.all_cons, Bool.and_eq_true]; exact h
    · simp only [strKeysL, List.all_cons, Bool.and_eq_true]; exact ⟨h.1, putL_all h.2⟩
theorem putL_len {name : Str} {hsh : Int} {key v : Value} : ∀ {es : List DictEntry}, (putL name hsh key v es).length ≤ es.length + 1
  | [] => by simp [putL]
  | e :: r => by
    simp only [putL]
    split
    · simp
    · have := putL_len (name := name) (hsh := hsh) (key := key) (v := v) (es := r)
      simp only [List.length_cons]; omega
theorem noRef {es : List DictEntry} (h : strKeysL es = true) : es.any (·.refKey) = false := by
  rw [List.any_eq_false]
  intro e he
  have := List.all_eq_true.mp h e he
  obtain ⟨hh, key, val⟩ := e
  cases key <;> first | (cases this; done) | simp [DictEntry.refKey]
def findV (name : Str) (es : List DictEntry) : Option Value := (es.find? (·.key.isStr name)).map (·.val)
theorem getL_eq {name : Str} {es : List DictEntry} (h : strKeysL es = true) : getL name es = some (findV name es) := by
  unfold getL findV
  cases e : es.find? (·.key.isStr name) with
  | some x => rfl
  | none => simp [noRef h]
theorem isStr_uniq {v : Value} {a b : Str} (h1 : v.isStr a = true) (h2 : v.isStr b = true) : a = b := by
  cases v <;> first | (cases h1; done) | skip
  simp only [Value.isStr, beq_iff_eq] at h1 h2
  exact h1.symm.trans h2
theorem isStr_self {a : Str} {t : Tok} : (Value.str a t).isStr a = true := by simp [Value.isStr]
theorem findV_put_self {name : Str} {hsh : Int} {tk : Tok} {v : Value} : ∀ {es : List DictEntry}, findV name (putL name hsh (.str name tk) v es) = some v
  | [] => by simp [findV, putL, isStr_self]
  | e :: r => by
    simp only [putL]
    split
    · rename_i h; simp [findV, h]
    · rename_i h
      have := findV_put_self (name := name) (hsh := hsh) (tk := tk) (v := v) (es := r)
      simp only [findV] at this ⊢
      rw [List.find?_cons, show e.key.isStr name = false by simpa using h]
      exact this
theorem findV_put_other {name z : Str} {hsh : Int} {tk : Tok} {v : Value} (hz : z ≠ name) : ∀ {es : List DictEntry}, findV z (putL name hsh (.str name tk) v es) = findV z es
  | [] => by
    have : (Value.str name tk).isStr z = false := by
      cases e : (Value.str name tk).isStr z with
      | false => rfl
      | true => exact absurd (isStr_uniq e isStr_self) hz
    simp [findV, putL, this]
  | e :: r => by
    simp only [putL]
    split
    · rename_i h
      have : e.key.isStr z = false := by
        cases e' : e.key.isStr z with
        | false => rfl
        | true => exact absurd (isStr_uniq e' h) hz
      simp [findV, this]
    · have := findV_put_other (name := name) (z := z) (hsh := hsh) (tk := tk) (v := v) hz (es := r)
      simp only [findV] at this ⊢
      rw [List.find?_cons, List.find?_cons]
      split
      · rfl
      · exact this

/-- an object of the class 104, with what its dict says -/
structure InstD (h : Heap) (x dx : Addr) (k : Nat) (f : Str → Option Value) : Prop where
  inst : h.get? x = some (instObj 104 dx)
  dict : ∃ es n, h.get? dx = some (dictOf es n) ∧ strKeysL es = true ∧ es.length ≤ k ∧ ∀ z v, f z = some v → findV z es = some v
theorem InstD.at {h h' : Heap} {x dx : Addr} {k : Nat} {f : Str → Option Value} (I : InstD h x dx k f) (k1 : ∀ o, h.get? x = some o → h'.get? x = some o) (k2 : ∀ o, h.get? dx = some o → h'.get? dx = some o) : InstD h' x dx k f :=
  ⟨k1 _ I.inst, let ⟨es, n, a, r⟩ := I.dict; ⟨es, n, k2 _ a, r⟩⟩
theorem InstD.field {h : Heap} {x dx : Addr} {k : Nat} {f : Str → Option Value} (I : InstD h x dx k f) {z : Str} {v : Value} (e : f z = some v) : FieldAt h x z v := by
  obtain ⟨es, n, a, b, _, d⟩ := I.dict
  exact ⟨dx, es, n, I.inst, a, by rw [getL_eq b, d z v e]⟩

section
variable {w : World} {A : Around} {E : Value → Shared → Prop} {R : Result → Shared → Prop} {s : Shared}
theorem plain104 {w : World} : plainOver (KK w) 104 = true := by rfl
theorem setInst {x dx : Addr} {k : Nat} {f : Str → Option Value} {name : Str} {v : Value} {Q : Unit → Shared → Prop} (X : (KK w).In s.heap) (I : InstD s.heap x dx k f) (hk : k ≤ 900) (ht : takerIn (KK w) 104 name = some none)
    (h : ∀ h' tk, Heap.SameBut dx s.heap h' → InstD h' x dx (k + 1) (fun z => if z = name then some v else f z) → Q () { s with heap := h', toks := tk }) :
    wpAny (model rw_pq0388_01.row.prog w) A (setAttr (.ref x) name v) Q E s := by
  obtain ⟨hx, es, n, D, hes, hl, hf⟩ := I
  have hdx : dx ≠ x := by rintro rfl; rw [D] at hx; cases hx
  have II : InstAt s.heap x (instObj 104 dx) 104 (some (dictOf es n)) := ⟨hx, rfl, rfl, D⟩
  refine set_plain X II (by rfl) (osa_open (s := { s with toks := s.toks + 1 }) X II plain104 ht fun b => ?_)
  have hc : Looks (model rw_pq0388_01.row.prog w) s.heap (classData 104) _ := looks_clsIn X rfl
  refine wpAny_bind (wpAny_pure (wpAny_bind (wpAny_bind (wpAny_loadPart hx (wpAny_bind (hc _ _ _ _ (fun _ _ e => e) ?_))))))
  refine wpAny_pure (a := some dx) ?_
  refine storeIn (s := { s with toks := s.toks + 1 }) D hes (by omega) fun h' key hs hd => ?_
  refine h h' _ hs ⟨(hs.2 x (Ne.symm hdx)).trans hx, _, _, hd, putL_all hes, Nat.le_trans putL_len (by omega), fun z u e => ?_⟩
  by_cases hz : z = name
  · subst hz
    rw [if_pos rfl] at e; cases e
    exact findV_put_self
  · rw [if_neg hz] at e
    rw [findV_put_other hz]; exact hf z u e
end
end Mine

-- MDecl2
namespace Mine
open PySem.Calls PySem.Challenge Builtin Builtin.ObjectAttr
structure InitSt (w : World) (h₀ : Heap) (L x dx : Addr) (m : Str → Option Value) (k : Nat) (f : Str → Option Value) (h : Heap) : Prop where
  ns : h.Ns L m
  keep : StaysBut [dx] h₀ h
  inst : InstD h x dx k f
  X : (KK w).In h
  ne : L ≠ dx
  nk : (KK w).lookup dx = none
theorem InitSt.up {w : World} {h₀ h h' : Heap} {L x dx : Addr} {m : Str → Option Value} {k : Nat} {f : Str → Option Value} (J : InitSt w h₀ L x dx m k f h) (kk : ∀ b o, h.get? b = some o → h'.get? b = some o) : InitSt w h₀ L x dx m k f h' :=
  ⟨J.ns.at' fun o e => kk _ o e, fun b o hb e => kk b o (J.keep b o hb e), J.inst.at (fun o e => kk _ o e) (fun o e => kk _ o e), J.X.keeps kk, J.ne, J.nk⟩
section
variable {w : World} {A : Around} {E : Value → Shared → Prop} {s : Shared} {env : Env} {h₀ : Heap} {x dx : Addr} {m : Str → Option Value} {k : Nat} {f : Str → Option Value}
theorem initStep {g : Str → Option Value} {value : Expr} {name : Str} {p pos' pos : Pos} {rest : List Stmt} {Q : Flow → Shared → Prop} {V : Value → Prop} (J : InitSt w h₀ env.locals x dx m k f s.heap) (hk : k ≤ 900) (hv : m "self" = some (.ref x))
    (hval : ∀ Q' : Value → Shared → Prop, (∀ h' tk v, InitSt w h₀ env.locals x dx m k f h' → V v → Q' v { s with heap := h', toks := tk }) → wpAny (model rw_pq0388_01.row.prog w) A (eval value env) Q' E s)
    (hg : ∀ v, V v → ∀ z u, g z = some u → (if z = name then some v else f z) = some u)
    (h : ∀ h' tk, InitSt w h₀ env.locals x dx m (k + 1) g h' → wpAny (model rw_pq0388_01.row.prog w) A (execs rest env) Q E { s with heap := h', toks := tk })
    (ht : takerIn (KK w) 104 name = some none := by rfl)
    (hkk : env.scope.kind = .function := by rfl) (hl : env.kindOf "self" = some .local := by rfl)
    (hs : swapsWith value (some (.Attribute (.Name "self" p) name pos')) pos.line env = pure false := by rfl) :
    wpAny (model rw_pq0388_01.row.prog w) A (execs (.Assign [.Attribute (.Name "self" p) name pos'] value pos :: rest) env) Q E s := by
  refine wpAny_execs_cons (plainObj_wpAny_Assign_Attribute ?_ hs)
  refine hval _ fun h' tk v J' hV => ?_
  refine nameLoc (s := { s with heap := h', toks := tk }) (v := .ref x) J'.ns hv ?_ hkk hl
  refine setInst (s := { s with heap := h', toks := tk }) J'.X J'.inst hk ht fun h'' tk' hs' I' => ?_
  dsimp only at hs' ⊢
  refine h h'' tk' ⟨J'.ns.sameBut hs' J'.ne, fun b o hb e => hs'.extBut b o (fun z => hb (by simp [z])) (J'.keep b o hb e), ⟨I'.inst, ?_⟩, ?_, J'.ne, J'.nk⟩
  · obtain ⟨es, n, a, b, c, d⟩ := I'.dict
    exact ⟨es, n, a, b, c, fun z u e => d z u (hg v hV z u e)⟩
  · intro a o q
    exact hs'.extBut a o (fun z => by rw [z, J'.nk] at q; cases q) (J'.X a o q)
theorem valName {y : Str} {pos : Pos} {v : Value} (J : InitSt w h₀ env.locals x dx m k f s.heap) (hy : m y = some v) (hkk : env.scope.kind = .function := by rfl) (hl : env.kindOf y = some .local := by rfl) (hd : (y == ("__debug__" : Str)) = false := by decide) :
    ∀ Q' : Value → Shared → Prop, (∀ h' tk u, InitSt w h₀ env.locals x dx m k f h' → u = v → Q' u { s with heap := h', toks := tk }) → wpAny (model rw_pq0388_01.row.prog w) A (eval (.Name y pos) env) Q' E s :=
  fun Q' hq => nameLoc J.ns hy (hq s.heap s.toks v J rfl) hkk hl hd
theorem valNone {j : Nat} {pos : Pos} (J : InitSt w h₀ env.locals x dx m k f s.heap) :
    ∀ Q' : Value → Shared → Prop, (∀ h' tk u, InitSt w h₀ env.locals x dx m k f h' → True → Q' u { s with heap := h', toks := tk }) → wpAny (model rw_pq0388_01.row.prog w) A (eval (.Constant .none j pos) env) Q' E s :=
  fun Q' hq => wpAny_pure (hq s.heap s.toks _ J trivial)
theorem valBool {j : Nat} {b : Bool} {pos : Pos} (J : InitSt w h₀ env.locals x dx m k f s.heap) :
    ∀ Q' : Value → Shared → Prop, (∀ h' tk u, InitSt w h₀ env.locals x dx m k f h' → True → Q' u { s with heap := h', toks := tk }) → wpAny (model rw_pq0388_01.row.prog w) A (eval (.Constant (.bool b) j pos) env) Q' E s :=
  fun Q' hq => wpAny_pure (hq s.heap s.toks _ J trivial)
theorem valStr {j : Nat} {b : Str} {pos : Pos} (J : InitSt w h₀ env.locals x dx m k f s.heap) :
    ∀ Q' : Value → Shared → Prop, (∀ h' tk u, InitSt w h₀ env.locals x dx m k f h' → True → Q' u { s with heap := h', toks := tk }) → wpAny (model rw_pq0388_01.row.prog w) A (eval (.Constant (.str b) j pos) env) Q' E s :=
  fun Q' hq => wpAny_Constant_str (hq s.heap _ _ J trivial)
theorem valList {pos : Pos} (J : InitSt w h₀ env.locals x dx m k f s.heap) :
    ∀ Q' : Value → Shared → Prop, (∀ h' tk u, InitSt w h₀ env.locals x dx m k f h' → True → Q' u { s with heap := h', toks := tk }) → wpAny (model rw_pq0388_01.row.prog w) A (eval (.List [] pos) env) Q' E s :=
  fun Q' hq => List_ (spliced_none (wpAny_newObj_type (hq _ s.toks _ (J.up fun _ _ e => Heap.get?_push_of_some _ e) trivial)))
theorem valDict {pos : Pos} (J : InitSt w h₀ env.locals x dx m k f s.heap) :
    ∀ Q' : Value → Shared → Prop, (∀ h' tk u, InitSt w h₀ env.locals x dx m k f h' → True → Q' u { s with heap := h', toks := tk }) → wpAny (model rw_pq0388_01.row.prog w) A (eval (.Dict [] [] pos) env) Q' E s := by
  intro Q' hq
  rw [eval_Dict_empty]
  exact wpAny_bind (wpAny_standAt (wpAny_newObj_type (hq _ s.toks _ (J.up fun _ _ e => Heap.get?_push_of_some _ e) trivial)))

def onlyLine (line : Value) : Str → Option Value := fun z => if z = "line" then some line else none
theorem only_ok {line : Value} {name : Str} (hn : name ≠ "line") : ∀ v : Value, True → ∀ z u, onlyLine line z = some u → (if z = name then some v else onlyLine line z) = some u := by
  intro v _ z u e
  by_cases hz : z = "line"
  · subst hz; rw [if_neg (Ne.symm hn)]; exact e
  · simp [onlyLine, hz] at e
theorem only_ok' {line v' : Value} {name : Str} (hn : name ≠ "line") : ∀ v : Value, v = v' → ∀ z u, onlyLine line z = some u → (if z = name then some v else onlyLine line z) = some u := fun v _ => only_ok hn v trivial
theorem nothing_ok {v' : Value} {f : Str → Option Value} {name : Str} : ∀ v : Value, v = v' → ∀ z u, (fun _ : Str => (none : Option Value)) z = some u → (if z = name then some v else f z) = some u := by
  intro v _ z u e; cases e
theorem line_ok {line : Value} {f : Str → Option Value} : ∀ v : Value, v = line → ∀ z u, onlyLine line z = some u → (if z = "line" then some v else f z) = some u := by
  rintro v rfl z u e
  by_cases hz : z = "line"
  · subst hz; simpa [onlyLine] using e
  · simp [onlyLine, hz] at e
end

theorem init101 {w : World} {A : Around} {s : Shared} {R : Result → Shared → Prop} {x dx : Addr} {kind name line : Value} (C : Cx w s.heap) (hdp : A.depth < recursionLimit) (I : InstD s.heap x dx 0 fun _ => none) (hnb : (KK w).lookup dx = none)
    (hR : ∀ h' tk, StaysBut [dx] s.heap h' → InstD h' x dx 100 (onlyLine line) → R (.ok (.ret .none)) { s with heap := h', toks := tk }) :
    codeAny (model rw_pq0388_01.row.prog w) A (.call (.ref 101) ⟨[.ref x, kind, name, line], []⟩) R s := by
  refine enterP C.lim (C.X 101 _ rfl) rfl (codeRec_of C.X rfl) hdp (BindsTo.of_eq rfl) (locs rfl) ?_ (by decide)
  intro L h₁ tk F hL
  refine wpAny_noRaise ?_
  have hLd : L ≠ dx := fun z => by
    obtain ⟨es, n, D, _⟩ := I.dict
    have := ltS D
    rw [← z, hL] at this
    exact Nat.lt_irrefl _ this
  have J : InitSt w s.heap L x dx _ 0 (fun _ => none) h₁ := ⟨F.ns, fun b o _ e => F.keep b o e, I.at (fun o e => F.keep _ o e) (fun o e => F.keep _ o e), C.X.keeps F.keep, hLd, hnb⟩
  refine initStep (V := fun v => v = kind) (g := fun _ => none) J (by omega) rfl (valName J rfl) nothing_ok fun h tk J => ?_
  refine initStep (V := fun v => v = name) (g := fun _ => none) J (by omega) rfl (valName J rfl) nothing_ok fun h tk J => ?_
  refine initStep (V := fun v => v = line) (g := onlyLine line) J (by omega) rfl (valName J rfl) line_ok fun h tk J => ?_
  refine initStep (V := fun v => v = name) J (by omega) rfl (valName J rfl) (only_ok' (by decide)) fun h tk J => ?_
  refine initStep (V := fun v => v = name) J (by omega) rfl (valName J rfl) (only_ok' (by decide)) fun h tk J => ?_
  iterate 25
    refine initStep (V := fun _ => True) J (by omega) rfl (by first | exact valNone J | exact valBool J | exact valStr J | exact valList J | exact valDict J) (only_ok (by decide)) fun h tk J => ?_
  refine wpAny_execs_nil ?_
  refine hR h tk J.keep ⟨J.inst.inst, ?_⟩
  obtain ⟨es, n, a, b, c, d⟩ := J.inst.dict
  exact ⟨es, n, a, b, by omega, d⟩

/-- an own contract, made -/
theorem makeDecl {w : World} {A : Around} {s : Shared} {R : Result → Shared → Prop} {kind name line : Value} (C : Cx w s.heap) (hdp : A.depth + 4 < recursionLimit)
    (hR : ∀ h' tk x dx, s.heap.StaysIn h' → s.heap.get? x = none → s.heap.get? dx = none → (s.heap.objs.size : Nat) ≤ x → (s.heap.objs.size : Nat) ≤ dx → InstD h' x dx 100 (onlyLine line) → R (.ok (.ret (.ref x))) { s with heap := h', toks := tk }) :
    codeAny (model rw_pq0388_01.row.prog w) A (.call (.ref 104) ⟨[kind, name, line], []⟩) R s := by
  obtain ⟨h, g, d, t, os⟩ := s
  have k : ∀ b o, h.get? b = some o → ((h.push emptyDict).push (instObj 104 h.objs.size)).get? b = some o := fun b o e => Heap.get?_push_of_some _ (Heap.get?_push_of_some _ e)
  have hx : ((h.push emptyDict).push (instObj 104 h.objs.size)).get? (h.objs.size + 1) = some (instObj 104 h.objs.size) := by heap_get
  have hdx : ((h.push emptyDict).push (instObj 104 h.objs.size)).get? h.objs.size = some (dictOf [] 0) := by heap_get
  have hdn : h.get? h.objs.size = none := none_of_le (Nat.le_refl _)
  have hnb : (KK w).lookup h.objs.size = none := by
    cases q : (KK w).lookup h.objs.size with
    | none => rfl
    | some o => have := C.X _ _ q; rw [hdn] at this; cases this
  refine make_core (C := 104) (init := .ref 101) (makes_of (K := KK w) C.X (by rfl)) (looks_findIn C.X (by rfl)) (fun self => bind_fn C.X self (by rfl)) (.inl rfl) ?_
  refine init101 (s := ⟨_, g, d, t, os⟩) (C.keeps k) (by rw [depth_under_kw]; omega) ⟨hx, [], 0, hdx, rfl, Nat.zero_le _, fun _ _ e => nomatch e⟩ hnb fun h' tk hk I => ?_
  refine ⟨rfl, hR h' tk _ _ (fun b o q => hk b o (fun z => ?_) (k b o q)) (none_of_le (Nat.le_succ _)) hdn (Nat.le_succ _) (Nat.le_refl _) I⟩
  rw [List.mem_singleton.mp z, hdn] at q; cases q
end Mine

-- MWell
namespace Mine
open PySem.Calls PySem.Challenge
theorem pickTo (n : Nat) (vs : List Value) : slicePick vs.toArray none (some (n : Int)) none = (vs.take n).toArray := by
  have e : sliceBounds none (some (n : Int)) none vs.toArray.size = (((0 : Nat) : Int), ((min n vs.toArray.size : Nat) : Int), 1) := by
    simp only [sliceBounds, Option.getD_none, show (1 : Int) > 0 by decide, if_true, if_neg (show ¬ ((n : Int) < 0) by omega)]
    congr 2
    omega
  rw [kmk_pick_nat _ e]
  congr 1
  show ((vs.drop 0).take (min n vs.toArray.size - 0)) = _
  rw [List.size_toArray, List.drop_zero, Nat.sub_zero]
  rw [List.take_eq_take_iff]
  omega
section
variable {prog : Program} {w : World} {A : Around} {E : Value → Shared → Prop} {s : Shared} {env : Env}
/-- `value[:n]` -/
theorem sliceTo {n : Nat} {value : Expr} {j : Nat} {p p2 pos : Pos} {Q : Value → Shared → Prop}
    (h : wpAny (model prog w) A (eval value env) (fun o s₁ => ∃ (l : Addr) (vs : List Value), o = .ref l ∧ s₁.heap.IsList l (List.toArray vs) ∧ vs.length ≤ sizeLine ∧
      (∀ D h' tk, s₁.heap.get? D = none → h'.PlainList D (List.toArray (vs.take n)) → s₁.heap.StaysIn h' → Q (.ref D) { s₁ with heap := h', toks := tk })) E s)
    (ht : ∀ o r, letTemporaryGo value o r = pure () := by intro _ _; rfl) :
    wpAny (model prog w) A (eval (.Subscript value (.Slice none (some (.Constant (.int (n : Int)) j p)) none p2) pos) env) Q E s := by
  refine wpAny_Subscript_Slice list_getitem_lookup (wpAny_mono h (fun o s₁ h₁ => ?_) fun _ _ e => e) ht
  obtain ⟨l, vs, rfl, hl, hsz, hQ⟩ := h₁
  refine wpAny_Slice (wpAny_pure ?_)
  refine wpAny_Constant_int (k := j) (pos := p) (wpAny_pure ?_)
  have hl' := hl.push { cls := .type "slice", data := .fields #[.none, .int (n : Int) s₁.toks, .none] }
  refine ⟨hl'.typeIs (s := { s₁ with heap := _, toks := _ }), wpAny_getItem_list_slice (s := { s₁ with heap := _, toks := _ }) hl' (Heap.IsSliceOf.new ..) .none (.int (n : Int) _) .none (by first | k_memK | simp) ?_ (by rw [List.size_toArray]; exact hsz)⟩
  rw [pickTo]
  refine hQ _ _ _ ?_ ⟨0, Heap.get?_push_size _ rfl⟩ fun b o e => Heap.get?_push_of_some _ (Heap.get?_push_of_some _ e)
  exact none_of_le (by rw [Heap.size_push]; exact Nat.le_succ _)
end

theorem intsOf {h : Heap} : ∀ {l ys : List Value}, Paired (EltIs (fun _ y => ∃ k t, y = Value.int k t) (fun _ _ _ => False) h) l ys → ∃ ns, IntsAre ys ns
  | _, _, .nil => ⟨[], .nil⟩
  | _, _, .cons hy P => by
    obtain ⟨ns, hns⟩ := intsOf P
    rcases hy with ⟨k, t, rfl⟩ | ⟨_, _, _, _, hy⟩
    · exact ⟨k :: ns, .cons k t hns⟩
    · exact hy.elim

/-- the well, made -/
theorem well_spec {w : World} {A : Around} {s : Shared} {R : Result → Shared → Prop} {a : Addr} {vs : List Value} {ns : List Int} (C : Cx w s.heap) (hh : A.handled = none) (hdp : A.depth < recursionLimit)
    (hl : s.heap.IsList a (List.toArray vs)) (hi : IntsAre vs ns) (hlen : vs.length ≤ 63)
    (hR : ∀ h' tk gl D, s.heap.StaysIn h' → s.heap.get? gl = none → s.heap.get? D = none → gl ≠ D → WellAt h' gl D → R (.ok (.ret (.ref D))) { s with heap := h', toks := tk }) :
    codeAny (model rw_pq0388_01.row.prog w) A (.call (.ref 113) ⟨[.ref a], []⟩) R s := by
  refine enterP C.lim (C.X 113 _ rfl) rfl (codeRec_of C.X rfl) hdp (BindsTo.of_eq rfl) (locs rfl) ?_ (by decide)
  intro L h₁ tk F hL
  refine wpAny_noRaise ?_
  refine wpAny_execs_cons (wpAny_Return_some (List_ (spliced_more ?_)))
  refine compR (fun _ => true) (fun _ y => ∃ k t, y = Value.int k t) (fun _ _ _ => False) hh (cl := []) rfl (by decide) rfl (by decide) rfl ?_
  refine sliceTo (n := 40) (nameLoc (v := .ref a) F.ns rfl ⟨a, vs, rfl, F.lst hl, by simp [sizeLine]; omega, fun Z h₂ tk₂ hZ hpZ hkZ => ?_⟩)
  have F₂ := F.keptAll hkZ
  obtain ⟨nZ, hpZ⟩ := hpZ
  have hi40 : IntsAre (vs.take 40) (ns.take 40) := hi.take 40
  have N₂ := newsAdd F News.nil hkZ hZ hpZ
  refine ⟨Z, vs.take 40, rfl, ⟨_, hpZ, rfl, nZ, rfl⟩, by simp [sizeLine]; omega, ?_, ?_, ?_⟩
  · intro C' v s₃ m₃ E' hv F₃' hm₃
    exact wpAny_pure ⟨rfl, _, _, rfl, fun _ _ e => e⟩
  · intro C' v s₃ m₃ E' hv _ F₃' hm₃
    obtain ⟨n, t, rfl⟩ := hi40.all v hv
    refine wpAny_BinOp (nameLoc (m := m₃) F₃'.ns hm₃ (wpAny_Constant_int (mod_int' (by decide) ?_)))
    exact ⟨.inl ⟨_, _, rfl⟩, keepsTok⟩
  intro gl h₃ tk₃ ys hgl hpl hP hlen₃ hk₃
  dsimp only at hgl hk₃ ⊢
  obtain ⟨ms, hms⟩ := intsOf hP
  have F₃ := F₂.keptAll hk₃
  obtain ⟨ng, hpl⟩ := hpl
  have N₃ := newsAdd F₂ N₂ hk₃ hgl hpl
  have hys : ys.length ≤ 63 := by rw [List.length_take] at hlen₃; omega
  refine spliced_more (wpAny_Constant_int (spliced_more (wpAny_Constant_int (spliced_none ?_))))
  refine newList_K (s := { s with heap := h₃, toks := _ }) F₃ N₃ (fun D h₄ F₄ N₄ hD₄ => ?_) (by simp [sizeLine])
  have e1 := N₄ _ (.head _)
  have e2 := N₄ (gl, _) (.tail _ (.head _))
  have hlt := hD₄ (gl, _) (.head _)
  have hglN : s.heap.get? gl = none := e2.2.2
  exact hR h₄ _ gl D F₄.keep hglN e1.2.2 (Nat.ne_of_lt hlt) ⟨_, _, _, _, ys, ms, ⟨_, e1.1, rfl, 0, rfl⟩, ⟨_, e2.1, rfl, ng, rfl⟩, hms, hys, Int.le_refl 0, Nat.ne_of_lt hlt⟩
end Mine

-- MExc6
namespace Mine
open PySem.Calls PySem.Challenge Builtin Builtin.ObjectAttr
theorem e11 {w : World} : findIn (KK w) (.ref 63) "__getattribute__" = some (some (.builtin "BaseException.__getattribute__")) := by kernel_rfl
theorem e12 {w : World} : findIn (KK w) (.ref 63) "__getattr__" = some none := by kernel_rfl
theorem gaSlot : Slot "Exception" "__getattribute__" "BaseException.__getattribute__" := .of (owner := "BaseException") (n := "__getattribute__") (by rw [typeLookup_type, builtinLookup_eq_fast]; kernel_rfl) (by decide +kernel) (by decide +kernel) (by decide +kernel)
    (by first | exact .inl (by decide +kernel) | exact .inr (by decide +kernel)) (by rw [isSubtype_type]; kernel_rfl)
theorem gaKind : builtinKind "BaseException.__getattribute__" = some .slot := by decide +kernel
theorem gaSplit : splitId "BaseException.__getattribute__" = some ("BaseException", "__getattribute__") := by decide +kernel
theorem gaNe : (Value.builtin "BaseException.__getattribute__" == Value.builtin "object.__getattribute__") = false := by decide +kernel
section
variable {w : World} {A : Around} {E : Value → Shared → Prop} {s : Shared}
theorem excGet {x : Addr} {ox : Obj} {od : Option Obj} {name : Str} {v : Value} {expr : Bool} {Q : Value → Shared → Prop} (X : (KK w).In s.heap) (I : InstAt s.heap x ox 63 od) (hf : findObj (KK w) 63 od name = some (.value v)) (hh : handedIn v = true)
    (h : Q v { s with toks := s.toks + 1 }) : wpAny (model rw_pq0388_01.row.prog w) A (getAttr (.ref x) name expr) Q E s := by
  obtain ⟨hp, g, d, t, os⟩ := s
  dsimp only at X I h
  have L0 : Looks (model rw_pq0388_01.row.prog w) hp (typeOf (.ref x)) (.ref 63) := I.type
  have L1 := looks_findIn (M := model rw_pq0388_01.row.prog w) X (e11 (w := w))
  have L2 := looks_findIn (M := model rw_pq0388_01.row.prog w) X (e12 (w := w))
  have L3 := looks_find (M := model rw_pq0388_01.row.prog w) X I hf
  have sub : Looks (model rw_pq0388_01.row.prog w) hp (isInstance (.ref x) (.type "BaseException")) true := L0.andThen (looks_mroIn X (by rfl))
  unfold getAttr getAttrBy
  refine wpAny_bind (wpAny_mkText (wpAny_holding (wpAny_bind (L0.at (wpAny_bind (L1.at ?_))))))
  dsimp only
  rw [gaNe, Bool.and_false, if_neg (by decide)]
  unfold getAttrByItsOwn
  refine wpAny_bind ?_
  show wpAny _ _ (typeLookup (.ref 63) "__getattr__") _ _ _
  refine L2.at ?_
  refine wpAny_bind (wpAny_attempt (wpAny_holding ?_))
  unfold callGetattribute
  have hx0 : (expr && onTheHeap (Value.builtin "BaseException.__getattribute__")) = false := by cases expr <;> rfl
  rw [hx0, if_neg (by decide)]
  unfold boundAndCalled
  rw [gaSlot.bind]
  refine wpAny_bind (wpAny_pure ?_)
  refine wpAny_call ?_
  refine codeAny_call_builtin gaSlot.plain F.entry_bexc_ga (@check_slot (model rw_pq0388_01.row.prog w) _ _ ⟨hp, g, d, t + 1, os⟩ "BaseException.__getattribute__" "BaseException" "__getattribute__" (.ref x) [.str name t] [] _ gaKind gaSplit sub (F.args_bexc_ga _ _) ?_)
  unfold Builtin.«object.__getattribute__»
  refine wpAny_bind (wpAny_pure (wpAny_bind (wpAny_pure (wpAny_bind (L0.at (wpAny_bind (L3.at ?_)))))))
  refine wpAny_pure ?_
  dsimp only
  show wpAny _ _ (handedOut v) _ _ _
  rw [handedOut_of hh]; exact wpAny_pure h
end
end Mine

-- MCatch
namespace Mine
open PySem.Calls PySem.Challenge
theorem e10 {w : World} : excIn (KK w) 63 [.ref 51, .ref 31, .type "Exception", .type "BaseException", .type "object"] "Exception.__new__" = true := by kernel_rfl
theorem mem_excRec {h base : Heap} {e : Addr} {a0 : Value} (x : h.TracedW base e (.ref 63) a0) : ∃ oe vs, h.get? e = some oe ∧ oe.cls = .ref 63 ∧ oe.data = .fields vs := by
  obtain ⟨oe, vs, _, _, _, he, ⟨hc, _⟩, hd, _⟩ := x
  exact ⟨oe, vs, he, hc, hd⟩
section
variable {w : World} {A : Around} {E : Value → Shared → Prop} {s' : Shared} {h₀ h : Heap} {L e : Addr} {m : Str → Option Value} {env : Env} {outer : List Env} {line : Value}
  {n : Str} {b₀ : Stmt} {suite : List Stmt} {pos np : Pos} {rest : List ExceptHandler} {Q : Flow → Shared → Prop}
theorem catchFault (hfr : A.frames = some (env :: outer)) (hf : env.frame = some env.locals) (F : Fr h₀ env.locals h m) (hou : ∀ b ∈ framesL outer, h.get? b = none) (C : Cx w h₀) (X : Fault (env :: outer) h s'.heap e line) (hlh : handedIn line = true)
    (k : ∀ h' tk, Fr h₀ env.locals h' (fun y => if y = n then some (.ref e) else m y) → StaysBut [env.locals] h h' →
      (∀ (A' : Around) (E' : Value → Shared → Prop) (s : Shared) (Q' : Value → Shared → Prop) (ex : Bool), (∀ b o, b ≠ env.locals → h'.get? b = some o → s.heap.get? b = some o) → (∀ tk, Q' line { s with toks := tk }) → wpAny (model rw_pq0388_01.row.prog w) A' (getAttr (.ref e) "line" ex) Q' E' s) →
      wpAny (model rw_pq0388_01.row.prog w) (A.mark (some (.ref e))) (execs (b₀ :: suite) env)
        (fun f s₄ => wpAny (model rw_pq0388_01.row.prog w) A (do bindName env n .none; unbindBehindTheSuite env n pos) (fun _ s₅ => Q f s₅) E s₄)
        (AsSuiteRaised (model rw_pq0388_01.row.prog w) (A.mark (some (.ref e))) env n pos (notedBy (model rw_pq0388_01.row.prog w) (A.mark (some (.ref e))) env (cameBackBy (model rw_pq0388_01.row.prog w) A env E)))
        { s' with heap := h', toks := tk })
    (hg : env.globals = mainGlobals := by rfl) (hk : env.scope.kind = .function := by rfl) (hlo : env.kindOf n = some .local := by rfl) (hx : env.kindOf "TypeFault" = some .globalImplicit := by rfl) :
    wpAny (model rw_pq0388_01.row.prog w) A (noteFrame (.ref e) env)
      (fun _ s₂ => wpAny (model rw_pq0388_01.row.prog w) A (setFlight (.ref e) none) (fun _ s₃ =>
        wpAny (model rw_pq0388_01.row.prog w) A (handleBy (.ref e) env (.ExceptHandler (some (.Name "TypeFault" np)) (some n) (b₀ :: suite) pos :: rest)) Q E s₃) E s₂) E s' := by
  obtain ⟨kp, ks, B, a0, hfl, kb, oe, dx, es, nn, h1, h2, h3, h4⟩ := X
  have inL : ∀ b o, b ≠ env.locals → h.get? b = some o → b ∉ framesL (env :: outer) := by
    intro b o hb q z
    rw [framesL, List.filterMap_cons, hf] at z
    rcases List.mem_cons.mp z with z | z
    · exact hb z
    · have := hou b z; rw [this] at q; cases q
  have hLB : B.get? env.locals = none := by
    obtain ⟨_, ⟨L', _, hf', hn', _⟩, _⟩ := hfl.2.2.1
    rw [hf] at hf'
    obtain rfl : env.locals = L' := Option.some.inj hf'
    exact hn'
  have base : ∀ b o, h₀.get? b = some o → B.get? b = some o := fun b o q => by
    have hbL : b ≠ env.locals := fun z => by
      have := ltS q
      rw [z] at this
      exact absurd this (Nat.not_lt.mpr F.above)
    have q' := F.keep _ _ q
    exact kb b o (inL b o hbL q') q'
  refine wpAny_mono (wpAny_steady (steady_noteFrame (.ref e) env) (wpAny_looks_onW (Q := fun _ s'' => ∃ h', s'' = { s' with heap := h' } ∧ Heap.HeldW B (env :: outer) e (.ref 63) a0 env.locals h' ∧ s'.heap.UpToSlots h') hfr hf hfl fun h' x y => ⟨h', rfl, x, y⟩)) (fun _ s'' hs'' => ?_) fun _ _ z => z
  obtain ⟨⟨h₄, rfl, hheld₄, hsm₄⟩, hD₄⟩ := hs''
  refine wpAny_mono (wpAny_steady (steady_setFlight (.ref e) none) (wpAny_landsW (Q := fun _ s'' => ∃ h', s'' = { s' with heap := h' } ∧ Heap.FlyingW B (env :: outer) e (.ref 63) a0 h' ∧ h₄.UpToSlots h') hheld₄ fun h' x y => ⟨h', rfl, x, y⟩)) (fun _ s'' hs'' => ?_) fun _ _ z => z
  obtain ⟨⟨h₅, rfl, hheld, hsm₅'⟩, hD₅⟩ := hs''
  have hsm₅ := hsm₄.trans hsm₅'
  have F₅ : Fr h₀ env.locals h₅ m := F.of_stays (fun b o q => hheld.1 b o (base b o q)) (ks.trans hsm₅)
  obtain ⟨ob, hob, hobc⟩ := hheld.there
  refine wpAny_handleBy_cons (codeAny_handlers_test (nameGlob (C.keeps F₅.keep) (v := .ref 63) rfl ?_ hg hk hx)) (by intro q; cases q)
  obtain ⟨nm, q, bs, hdct, sn, sub, ab, col, dd, k0, k1, k2, k3, k5, hC⟩ := cls63 (C.keeps F₅.keep).X
  refine wpAny_excMatches_sub_self hC hob hobc (by rfl) (codeAny_handlers_suite_as ?_)
  refine wpAny_mono (wpAny_steady (steady_setFlight (.ref e) none) (lands_againW (Q := fun _ s'' => ∃ h', s'' = { s' with heap := h' } ∧ Heap.FlyingW B (env :: outer) e (.ref 63) a0 h' ∧ h₅.UpToSlots h') hheld fun h' x y => ⟨h', rfl, x, y⟩)) (fun _ s'' hs'' => ?_) fun _ _ z => z
  obtain ⟨⟨h₆, rfl, hfl₆, hsm₆⟩, hD₆⟩ := hs''
  have F₆ : Fr h₀ env.locals h₆ m := F.of_stays (fun b o q => hfl₆.1 b o (base b o q)) ((ks.trans hsm₅).trans hsm₆)
  obtain ⟨oe₄, g₄, d₄⟩ := hD₄ e _ h1
  obtain ⟨oe₅, g₅, d₅⟩ := hD₅ e _ g₄
  obtain ⟨oe₆, g₆, d₆⟩ := hD₆ e _ g₅
  have hdict : oe₆.dict = some dx := ((d₆.trans d₅).trans d₄).trans h2
  obtain ⟨oe', vs', g', hcls, hdat⟩ := mem_excRec hfl₆.2.2.2
  dsimp only at g₆
  rw [g₆] at g'; cases g'
  have hdx : h₆.get? dx = some (dictOf es nn) := hfl₆.1 _ _ h3
  have heL : e ≠ env.locals := fun z => by
    obtain ⟨_, ⟨L', o, hf', _, ho, hnf⟩, _⟩ := hfl₆.2.2.1
    rw [hf] at hf'
    obtain rfl : env.locals = L' := Option.some.inj hf'
    rw [← z, g₆] at ho; cases ho
    exact hnf _ hdat
  have hdL : dx ≠ env.locals := fun z => by rw [z, hLB] at h3; cases h3
  refine wpAny_storeName_local (s := { s' with heap := h₆ }) hlo F₆.ns (fun h₇ hn₇ hs₇ => ?_) (by rw [hk]; rfl)
  dsimp only at hs₇
  refine k h₇ _ (F₆.set hn₇ hs₇) (fun b o hb q => ?_) (fun A' E' s Q' ex hs hq => ?_)
  · have hb' : b ≠ env.locals := fun z => hb (by simp [z])
    exact (hs₇.2 b hb').trans (hfl₆.1 _ _ (kb b o (inL b o hb' q) q))
  · have g₇ : s.heap.get? e = some oe₆ := hs e _ heL ((hs₇.2 e heL).trans g₆)
    have D₇ : s.heap.get? dx = some (dictOf es nn) := hs dx _ hdL ((hs₇.2 dx hdL).trans hdx)
    have X₇ : (KK w).In s.heap := C.X.keeps fun b o q => hs b o (fun z => by
      have := ltS q
      rw [z] at this
      exact absurd this (Nat.not_lt.mpr F.above)) ((F₆.set hn₇ hs₇).keep b o q)
    refine excGet (od := some (dictOf es nn)) X₇ ⟨g₇, hcls, ?_, by rw [hdict]; exact D₇⟩ (findObj_own (by rfl) e6 rfl h4) hlh (hq _)
    unfold notCls; rw [hdat]
end
end Mine

-- MForG
namespace Mine
open PySem.Calls PySem.Challenge
section
variable {prog : Program} {w : World} {A : Around} {s : Shared} {env : Env}
/-- how a turn ends that goes on: the next state, and what it changed -/
def TurnG (mv : List Addr) (Inv : Heap → Prop) (Q : Flow → Shared → Prop) (s₁ : Shared) (f : Flow) (s₂ : Shared) : Prop :=
  match f with
  | .ret v => Q (.ret v) s₂
  | .brk => Q .next s₂
  | _ => ∃ h' tk, s₂ = { s₁ with heap := h', toks := tk } ∧ StaysBut mv s₁.heap h' ∧ Inv h'

theorem forG {target iter : Expr} {body : List Stmt} {pos : Pos} {Q : Flow → Shared → Prop}
    (h : wpAny (model prog w) A (eval iter env) (fun xv s₁ => wpAny (model prog w) A (pyIter xv) (fun it s₂ => ∃ (I : Addr) (fp wr mv : List Addr) (n : Nat) (P : Nat → Value → Prop) (St : Nat → Heap → Prop) (Inv : Nat → Heap → Prop),
      it = .ref I ∧ Walks prog w A I fp wr n P St ∧ St 0 s₂.heap ∧ Inv 0 s₂.heap ∧ (∀ b ∈ fp, b ∉ mv) ∧ (∀ i h h', Inv i h → St i h → StaysBut wr h h' → Inv i h') ∧
      (∀ i v s₃, i < n → P i v → Inv i s₃.heap → (∃ h' tk, s₃ = { s₂ with heap := h', toks := tk }) →
        wpAny (model prog w) A (assign target env v) (fun _ s₄ => wpAny (model prog w) A (execs body env) (TurnG mv (Inv (i + 1)) Q s₃) (fun _ _ => False) s₄) (fun _ _ => False) s₃) ∧
      (∀ h tk, Inv n h → Q .next { s₂ with heap := h, toks := tk })) (fun _ _ => False) s₁) (fun _ _ => False) s)
    (hs : ∀ x, foldedSetIterable iter env x = pure x := by intro _; rfl) (ht : ∀ it v, letOwnedTupleGo target it v = pure () := by intro _ _; rfl) :
    wpAny (model prog w) A (exec (.For target iter body [] pos) env) Q (fun _ _ => False) s := by
  refine wpAny_For (wpAny_mono h (fun xv s₁ h₁ => wpAny_mono h₁ (fun it s₂ h₂ => ?_) fun _ _ e => e.elim) fun _ _ e => e.elim) hs
  obtain ⟨I, fp, wr, mv, n, P, St, Inv, rfl, W, hst, hinv, hfm, stable, turn, done⟩ := h₂
  refine codeAny_forLoop (fun k s' => ∃ h' tk i, s' = { s₂ with heap := h', toks := tk } ∧ St i h' ∧ Inv i h' ∧ i ≤ n ∧ k = n + 1 - i) ?_ (n + 1) ⟨s₂.heap, s₂.toks, 0, rfl, hst, hinv, Nat.zero_le _, rfl⟩ (fun v => ht _ v)
  rintro k s' ⟨H, tk, i, rfl, hst', hI, hi, rfl⟩
  by_cases hlt : i < n
  · refine W.item i _ _ _ hlt hst' fun v h₁ tk₁ hPv hst₁ hk₁ => ?_
    refine wpAny_mono (turn i v { s₂ with heap := h₁, toks := tk₁ } hlt hPv (stable i H h₁ hI hst' fun b o hb e => hk₁ b o hb e) ⟨_, _, rfl⟩) (fun _ s₃ h₃ => wpAny_mono h₃ (fun f s₄ h₄ => ?_) fun _ _ e => e.elim) fun _ _ e => e.elim
    have fin : (∃ h' tk, s₄ = { ({ s₂ with heap := h₁, toks := tk₁ } : Shared) with heap := h', toks := tk } ∧ StaysBut mv h₁ h' ∧ Inv (i + 1) h') → ∃ m, m < n + 1 - i ∧ ∃ h' tk i', s₄ = { s₂ with heap := h', toks := tk } ∧ St i' h' ∧ Inv i' h' ∧ i' ≤ n ∧ m = n + 1 - i' := by
      rintro ⟨h', tk', rfl, hk, hI'⟩
      exact ⟨n + 1 - (i + 1), by omega, h', tk', i + 1, rfl, W.frame _ _ _ hst₁ fun b hb o e => hk b o (hfm b hb) e, hI', hlt, rfl⟩
    cases f with
    | ret v => exact h₄
    | brk => exact h₄
    | next => exact fin h₄
    | cont => exact fin h₄
  · have hin : i = n := by omega
    subst hin
    refine W.done _ _ _ hst' fun h₁ tk₁ hk₁ => ?_
    exact wpAny_execs_nil (done h₁ tk₁ (stable i H h₁ hI hst' fun b o hb e => hk₁ b o hb e))
end
end Mine

-- MLaw0
namespace Mine
open PySem.Calls PySem.Challenge
def bodyOf : Stmt → List Stmt
  | .FunctionDef (body := b) .. => b
  | .For (body := b) .. => b
  | _ => []
def scopeOf : Stmt → Scope
  | .FunctionDef (scope := sc) .. => sc
  | _ => default
def lawStmt : Stmt := (pw_pq0388_01.main.body[16]?).getD default
def lawBody : List Stmt := bodyOf lawStmt
def lawScope : Scope := scopeOf lawStmt
def lawTurn : List Stmt := bodyOf ((lawBody[2]?).getD default)
abbrev lawEnv (L fa : Addr) (cd : Value) : Env := envOfC "law" lawScope L fa cd

structure Sx where
  L : Addr
  W : Addr
  B : Addr
  O : Addr
  S : Addr
  gl : Addr
  D : Addr
def mu (X : Sx) : List Addr := [X.L, X.L + 5, X.L + 6, X.W, X.B, X.O, X.S]
def mx (X : Sx) : List Addr := X.D :: mu X
structure SxOk (h₀ : Heap) (X : Sx) : Prop where
  nd : (mu X).Nodup
  new : ∀ b ∈ mu X, h₀.get? b = none
  c1 : X.L + 1 ∉ mx X
  c2 : X.L + 2 ∉ mx X
  c3 : X.L + 3 ∉ mx X
  c4 : X.L + 4 ∉ mx X
  g : X.gl ∉ mx X
def refAt (bs : List Addr) (n : Int) : Value := match bs[n.toNat]? with
  | some c => .ref c
  | none => .none
def FieldM (X : Sx) (h : Heap) (c : Addr) (name : Str) (v : Value) : Prop := ∃ dx es n, dx ∉ mx X ∧ h.get? c = some (instObj 104 dx) ∧ h.get? dx = some (dictOf es n) ∧ getL name es = some (some v)
theorem FieldM.field {X : Sx} {h : Heap} {c : Addr} {name : Str} {v : Value} (x : FieldM X h c name v) : FieldAt h c name v := let ⟨dx, es, n, _, a, b, e⟩ := x; ⟨dx, es, n, a, b, e⟩
structure LinAt (X : Sx) (bs : List Addr) (os : List (Addr × List Int)) (h : Heap) (n : Int) : Prop where
  pos : 0 ≤ n
  ex : ∃ c q lin, bs[n.toNat]? = some c ∧ os[n.toNat]? = some q ∧ FieldM X h c "linear" (.ref lin) ∧ lin ∉ mx X ∧ h.IsList lin (List.toArray (q.2.map (refAt bs))) ∧ ∀ k ∈ q.2, 0 ≤ k ∧ k.toNat < bs.length
structure TS (X : Sx) (num : Option Value) (ow : Option Value) (bs : List Addr) (os : List (Addr × List Int)) (ss : List Int) (h : Heap) : Prop where
  c1 : h.IsCell (X.L + 1) (some (.ref X.W))
  c2 : h.IsCell (X.L + 2) (some (.ref X.B))
  c3 : h.IsCell (X.L + 3) (some (.ref X.O))
  c4 : h.IsCell (X.L + 4) (some (.ref X.S))
  c5 : h.IsCell (X.L + 5) num
  c6 : h.IsCell (X.L + 6) ow
  well : WellAt h X.gl X.W
  bl : h.PlainList X.B (List.toArray (bs.map Value.ref))
  ol : h.PlainList X.O (List.toArray (os.map fun q => Value.ref q.1))
  sl : ∃ vs, h.PlainList X.S (List.toArray vs) ∧ IntsAre vs ss
  decl : ∀ c ∈ bs, c ∉ mx X ∧ DeclAt h c
  ords : ∀ q ∈ os, q.1 ∉ mx X ∧ ∃ vs, h.IsList q.1 (List.toArray vs) ∧ IntsAre vs q.2
  lins : ∀ n ∈ ss, LinAt X bs os h n
  nod : bs.Nodup
section
variable {X : Sx} {num : Option Value} {ow : Option Value} {bs : List Addr} {os : List (Addr × List Int)} {ss : List Int} {h h' : Heap} {h₀ : Heap}
theorem FieldM.but {c : Addr} {name : Str} {v : Value} (x : FieldM X h c name v) (hc : c ∉ mx X) (k : StaysBut (mx X) h h') : FieldM X h' c name v :=
  let ⟨dx, es, n, d, a, b, e⟩ := x; ⟨dx, es, n, d, k _ _ hc a, k _ _ d b, e⟩
theorem listBut {a : Addr} {vs : Array Value} {mv : List Addr} (x : h.IsList a vs) (ha : a ∉ mv) (k : StaysBut mv h h') : h'.IsList a vs := x.at fun o e => k _ o ha e
theorem plainBut {a : Addr} {vs : Array Value} {mv : List Addr} (x : h.PlainList a vs) (ha : a ∉ mv) (k : StaysBut mv h h') : h'.PlainList a vs := x.at fun o e => k _ o ha e
theorem cellBut {a : Addr} {v : Option Value} {mv : List Addr} (x : h.IsCell a v) (ha : a ∉ mv) (k : StaysBut mv h h') : h'.IsCell a v := let ⟨o, e, d⟩ := x; ⟨o, k _ _ ha e, d⟩
theorem wellBut {gl W : Addr} {mv : List Addr} (x : WellAt h gl W) (h1 : gl ∉ mv) (h2 : W ∉ mv) (k : StaysBut mv h h') : WellAt h' gl W :=
  let ⟨i, t, st, u, vs, ns, a, b, r⟩ := x; ⟨i, t, st, u, vs, ns, listBut a h2 k, listBut b h1 k, r⟩
theorem LinAt.but {n : Int} (x : LinAt X bs os h n) (hd : ∀ c ∈ bs, c ∉ mx X) (k : StaysBut (mx X) h h') : LinAt X bs os h' n := by
  obtain ⟨p, c, q, lin, a, b, d, e, f, g⟩ := x
  exact ⟨p, c, q, lin, a, b, d.but (hd c (List.mem_of_getElem? a)) k, e, listBut f e k, g⟩
theorem StaysBut.mono {mv mv' : List Addr} (k : StaysBut mv h h') (hs : ∀ b ∈ mv, b ∈ mv') : StaysBut mv' h h' := fun b o hb e => k b o (fun q => hb (hs b q)) e
theorem StaysBut.of {mv : List Addr} (k : h.StaysIn h') : StaysBut mv h h' := fun b o _ e => k b o e
theorem StaysBut.same {a : Addr} (k : Heap.SameBut a h h') : StaysBut [a] h h' := fun b o hb e => k.extBut b o (fun z => hb (by simp [z])) e
theorem TS.move {num' : Option Value} {ow' : Option Value} (T : TS X num ow bs os ss h) (SX : SxOk h₀ X) (k : StaysBut (mx X) h h')
    (h5 : h'.IsCell (X.L + 5) num') (h6 : h'.IsCell (X.L + 6) ow') (hw : WellAt h' X.gl X.W) (hb : h'.PlainList X.B (List.toArray (bs.map Value.ref))) (ho : h'.PlainList X.O (List.toArray (os.map fun q => Value.ref q.1)))
    (hs : ∃ vs, h'.PlainList X.S (List.toArray vs) ∧ IntsAre vs ss) : TS X num' ow' bs os ss h' :=
  ⟨cellBut T.c1 SX.c1 k, cellBut T.c2 SX.c2 k, cellBut T.c3 SX.c3 k, cellBut T.c4 SX.c4 k, h5, h6, hw, hb, ho, hs,
    fun c hc => ⟨(T.decl c hc).1, let ⟨o, e, r⟩ := (T.decl c hc).2; ⟨o, k _ _ (T.decl c hc).1 e, r⟩⟩,
    fun q hq => ⟨(T.ords q hq).1, let ⟨vs, a, b⟩ := (T.ords q hq).2; ⟨vs, listBut a (T.ords q hq).1 k, b⟩⟩,
    fun n hn => (T.lins n hn).but (fun c hc => (T.decl c hc).1) k, T.nod⟩
theorem TS.keep (T : TS X num ow bs os ss h) (SX : SxOk h₀ X) (k : h.StaysIn h') : TS X num ow bs os ss h' :=
  T.move SX (.of k) (cellKeeps T.c5 k) (cellKeeps T.c6 k) (T.well.keeps k) (T.bl.at fun o e => k _ o e) (T.ol.at fun o e => k _ o e) (let ⟨vs, a, b⟩ := T.sl; ⟨vs, a.at fun o e => k _ o e, b⟩)
theorem muNe (SX : SxOk h₀ X) : X.L ≠ X.W ∧ X.L ≠ X.B ∧ X.L ≠ X.O ∧ X.L ≠ X.S ∧ X.L + 5 ≠ X.W ∧ X.L + 5 ≠ X.B ∧ X.L + 5 ≠ X.O ∧ X.L + 5 ≠ X.S ∧ X.L + 6 ≠ X.W ∧ X.L + 6 ≠ X.B ∧ X.L + 6 ≠ X.O ∧ X.L + 6 ≠ X.S ∧ X.W ≠ X.B ∧ X.W ≠ X.O ∧ X.W ≠ X.S ∧ X.B ≠ X.O ∧ X.B ≠ X.S ∧ X.O ≠ X.S := by
  have := SX.nd
  simp only [mu, List.nodup_cons, List.mem_cons, List.not_mem_nil, or_false, not_or] at this
  obtain ⟨⟨_, _, a1, a2, a3, a4⟩, ⟨_, b1, b2, b3, b4⟩, ⟨c1, c2, c3, c4⟩, ⟨d1, d2, d3⟩, ⟨e1, e2⟩, f1, _⟩ := this
  exact ⟨a1, a2, a3, a4, b1, b2, b3, b4, c1, c2, c3, c4, d1, d2, d3, e1, e2, f1⟩
theorem addNe {L : Nat} {a b : Nat} (h : a ≠ b) : L + a ≠ L + b := by omega
theorem TS.loc (T : TS X num ow bs os ss h) (SX : SxOk h₀ X) (k : StaysBut [X.L] h h') : TS X num ow bs os ss h' := by
  obtain ⟨a1, a2, a3, a4, _⟩ := muNe SX
  have n5 : X.L + 5 ∉ [X.L] := fun z => absurd (List.mem_singleton.mp z) (addNe (b := 0) (by decide))
  have n6 : X.L + 6 ∉ [X.L] := fun z => absurd (List.mem_singleton.mp z) (addNe (b := 0) (by decide))
  have ng : X.gl ∉ [X.L] := fun z => SX.g (by rw [List.mem_singleton.mp z]; exact .tail _ (.head _))
  exact T.move SX (k.mono fun b hb => by rw [List.mem_singleton.mp hb]; exact .tail _ (.head _)) (cellBut T.c5 n5 k) (cellBut T.c6 n6 k) (wellBut T.well ng (by simpa using Ne.symm a1) k) (plainBut T.bl (by simpa using Ne.symm a2) k) (plainBut T.ol (by simpa using Ne.symm a3) k)
    (let ⟨vs, a, b⟩ := T.sl; ⟨vs, plainBut a (by simpa using Ne.symm a4) k, b⟩)
theorem TS.w (T : TS X num ow bs os ss h) (SX : SxOk h₀ X) (k : StaysBut [X.W] h h') (hw : WellAt h' X.gl X.W) : TS X num ow bs os ss h' := by
  obtain ⟨a1, a2, a3, a4, a5, a6, a7, a8, a9, a10, a11, a12, a13, a14, a15, _⟩ := muNe SX
  exact T.move SX (k.mono fun b hb => by rw [List.mem_singleton.mp hb]; simp [mx, mu]) (cellBut T.c5 (by simpa using a5) k) (cellBut T.c6 (by simpa using a9) k) hw (plainBut T.bl (by simpa using Ne.symm a13) k) (plainBut T.ol (by simpa using Ne.symm a14) k)
    (let ⟨vs, a, b⟩ := T.sl; ⟨vs, plainBut a (by simpa using Ne.symm a15) k, b⟩)
theorem TS.n {num' : Option Value} (T : TS X num ow bs os ss h) (SX : SxOk h₀ X) (k : StaysBut [X.L + 5] h h') (h5 : h'.IsCell (X.L + 5) num') : TS X num' ow bs os ss h' := by
  obtain ⟨a1, a2, a3, a4, a5, a6, a7, a8, a9, a10, a11, a12, a13, a14, a15, _⟩ := muNe SX
  have n6 : X.L + 6 ∉ [X.L + 5] := fun z => absurd (List.mem_singleton.mp z) (addNe (by decide))
  have ng : X.gl ∉ [X.L + 5] := fun z => SX.g (by rw [List.mem_singleton.mp z]; simp [mx, mu])
  exact T.move SX (k.mono fun b hb => by rw [List.mem_singleton.mp hb]; simp [mx, mu]) h5 (cellBut T.c6 n6 k) (wellBut T.well ng (by simpa using Ne.symm a5) k) (plainBut T.bl (by simpa using Ne.symm a6) k) (plainBut T.ol (by simpa using Ne.symm a7) k)
    (let ⟨vs, a, b⟩ := T.sl; ⟨vs, plainBut a (by simpa using Ne.symm a8) k, b⟩)
theorem TS.o {ow' : Option Value} (T : TS X num ow bs os ss h) (SX : SxOk h₀ X) (k : StaysBut [X.L + 6] h h') (h6 : h'.IsCell (X.L + 6) ow') : TS X num ow' bs os ss h' := by
  obtain ⟨a1, a2, a3, a4, a5, a6, a7, a8, a9, a10, a11, a12, a13, a14, a15, _⟩ := muNe SX
  have n5 : X.L + 5 ∉ [X.L + 6] := fun z => absurd (List.mem_singleton.mp z) (addNe (by decide))
  have ng : X.gl ∉ [X.L + 6] := fun z => SX.g (by rw [List.mem_singleton.mp z]; simp [mx, mu])
  exact T.move SX (k.mono fun b hb => by rw [List.mem_singleton.mp hb]; simp [mx, mu]) (cellBut T.c5 n5 k) h6 (wellBut T.well ng (by simpa using Ne.symm a9) k) (plainBut T.bl (by simpa using Ne.symm a10) k) (plainBut T.ol (by simpa using Ne.symm a11) k)
    (let ⟨vs, a, b⟩ := T.sl; ⟨vs, plainBut a (by simpa using Ne.symm a12) k, b⟩)
theorem FrBut {L : Addr} {m : Str → Option Value} {mv : List Addr} (F : Fr h₀ L h m) (k : StaysBut mv h h') (hL : L ∉ mv) (hn : ∀ b ∈ mv, h₀.get? b = none) : Fr h₀ L h' m :=
  ⟨F.ns.at' fun o e => k _ o hL e, fun b o e => k b o (fun z => by rw [hn b z] at e; cases e) (F.keep b o e), F.above⟩
/-- what is made behind a state is none of what turns -/
theorem TS.live (T : TS X num ow bs os ss h) {m : Str → Option Value} (F : Fr h₀ X.L h m) : ∀ b ∈ mu X, ∃ o, h.get? b = some o := by
  intro b hb
  simp only [mu, List.mem_cons, List.not_mem_nil, or_false] at hb
  rcases hb with rfl | rfl | rfl | rfl | rfl | rfl | rfl
  · obtain ⟨o, _, _, e, _⟩ := F.ns; exact ⟨o, e⟩
  · obtain ⟨o, e, _⟩ := T.c5; exact ⟨o, e⟩
  · obtain ⟨o, e, _⟩ := T.c6; exact ⟨o, e⟩
  · obtain ⟨_, _, _, _, _, _, ⟨o, e, _⟩, _⟩ := T.well; exact ⟨o, e⟩
  · obtain ⟨_, e⟩ := T.bl; exact ⟨_, e⟩
  · obtain ⟨_, e⟩ := T.ol; exact ⟨_, e⟩
  · obtain ⟨_, ⟨_, e⟩, _⟩ := T.sl; exact ⟨_, e⟩
theorem TS.fresh (T : TS X num ow bs os ss h) {m : Str → Option Value} (F : Fr h₀ X.L h m) {D : Addr} (e : h.get? D = none) : D ∉ mu X := fun z => by
  obtain ⟨o, e'⟩ := T.live F D z
  rw [e] at e'; cases e'
theorem TS.d (T : TS X num ow bs os ss h) (SX : SxOk h₀ X) (hD : X.D ∉ mu X) (k : StaysBut [X.D] h h') : TS X num ow bs os ss h' := by
  have ne : ∀ b ∈ mu X, b ∉ [X.D] := fun b hb z => hD (by rw [← List.mem_singleton.mp z]; exact hb)
  have ng : X.gl ∉ [X.D] := fun z => SX.g (by rw [List.mem_singleton.mp z]; exact .head _)
  exact T.move SX (k.mono fun b hb => by rw [List.mem_singleton.mp hb]; exact .head _) (cellBut T.c5 (ne _ (by simp [mu])) k) (cellBut T.c6 (ne _ (by simp [mu])) k) (wellBut T.well ng (ne _ (by simp [mu])) k) (plainBut T.bl (ne _ (by simp [mu])) k) (plainBut T.ol (ne _ (by simp [mu])) k)
    (let ⟨vs, a, b⟩ := T.sl; ⟨vs, plainBut a (ne _ (by simp [mu])) k, b⟩)
theorem liveNe {a dx : Addr} (ha : ∃ o, h.get? a = some o) (hd : h.get? dx = none) : a ≠ dx := by
  rintro rfl
  obtain ⟨o, e⟩ := ha
  rw [hd] at e; cases e
abbrev setD (X : Sx) (dx : Addr) : Sx := { X with D := dx }
theorem mxSet {a dx : Addr} (h1 : a ∉ mx X) (h2 : a ≠ dx) : a ∉ mx (setD X dx) := by
  intro z
  rcases List.mem_cons.mp z with z | z
  · exact h2 z
  · exact h1 (.tail _ z)
theorem FieldM.setD {c dx : Addr} {name : Str} {v : Value} (x : FieldM X h c name v) (hd : h.get? dx = none) : FieldM (setD X dx) h c name v :=
  let ⟨dx', es, n, d, a, b, e⟩ := x; ⟨dx', es, n, mxSet d (liveNe ⟨_, b⟩ hd), a, b, e⟩
theorem TS.setD {dx : Addr} (T : TS X num ow bs os ss h) (hd : h.get? dx = none) : TS (setD X dx) num ow bs os ss h :=
  ⟨T.c1, T.c2, T.c3, T.c4, T.c5, T.c6, T.well, T.bl, T.ol, T.sl, fun c hc => ⟨mxSet (T.decl c hc).1 (liveNe (let ⟨o, e, _⟩ := (T.decl c hc).2; ⟨o, e⟩) hd), (T.decl c hc).2⟩,
    fun q hq => ⟨mxSet (T.ords q hq).1 (liveNe (let ⟨_, ⟨o, e, _⟩, _⟩ := (T.ords q hq).2; ⟨o, e⟩) hd), (T.ords q hq).2⟩,
    fun n hn => by
      obtain ⟨p, c, q, lin, a, b, d, e, f, g⟩ := T.lins n hn
      exact ⟨p, c, q, lin, a, b, d.setD hd, mxSet e (liveNe (let ⟨o, e, _⟩ := f; ⟨o, e⟩) hd), f, g⟩, T.nod⟩
theorem SxOk.setD {dx : Addr} (SX : SxOk h₀ X) (T : TS X num ow bs os ss h) (hd : h.get? dx = none) : SxOk h₀ (setD X dx) := by
  have lc : ∀ {a : Addr} {v : Option Value}, h.IsCell a v → a ≠ dx := fun x => liveNe (let ⟨o, e, _⟩ := x; ⟨o, e⟩) hd
  refine ⟨SX.nd, SX.new, mxSet SX.c1 (lc T.c1), mxSet SX.c2 (lc T.c2), mxSet SX.c3 (lc T.c3), mxSet SX.c4 (lc T.c4), mxSet SX.g ?_⟩
  obtain ⟨_, _, _, _, _, _, _, ⟨o, e, _⟩, _⟩ := T.well
  exact liveNe ⟨o, e⟩ hd
theorem mxClear {a : Addr} (h1 : a ∉ mx X) : a ∉ mx (Mine.setD X X.L) := mxSet h1 fun z => h1 (by rw [z]; exact .tail _ (.head _))
theorem SxOk.clear (SX : SxOk h₀ X) : SxOk h₀ (Mine.setD X X.L) := ⟨SX.nd, SX.new, mxClear SX.c1, mxClear SX.c2, mxClear SX.c3, mxClear SX.c4, mxClear SX.g⟩
theorem TS.clear (T : TS X num ow bs os ss h) : TS (Mine.setD X X.L) num ow bs os ss h :=
  ⟨T.c1, T.c2, T.c3, T.c4, T.c5, T.c6, T.well, T.bl, T.ol, T.sl, fun c hc => ⟨mxClear (T.decl c hc).1, (T.decl c hc).2⟩, fun q hq => ⟨mxClear (T.ords q hq).1, (T.ords q hq).2⟩,
    fun n hn => by
      obtain ⟨p, c, q, lin, a, b, ⟨dx, es, k, x1, x2, x3, x4⟩, e, f, g⟩ := T.lins n hn
      exact ⟨p, c, q, lin, a, b, ⟨dx, es, k, mxClear x1, x2, x3, x4⟩, mxClear e, f, g⟩, T.nod⟩
end
end Mine

-- MLaw1
namespace Mine
open PySem.Calls PySem.Challenge
theorem b3 : bootBuiltins "range" = some (.type "range") := by kernel_rfl
section
variable {w : World} {A : Around} {E : Value → Shared → Prop} {s : Shared} {env : Env}
theorem mkList {M : Model} {vs : List Value} {Q : Value → Shared → Prop} (h : ∀ D h', s.heap.get? D = none → s.heap.StaysIn h' → h'.PlainList D (List.toArray vs) → Q (.ref D) { s with heap := h' }) (hsz : vs.length ≤ sizeLine := by simp [sizeLine]) : wpAny M A (newList vs) Q E s :=
  wpAny_newObj_type (h _ _ (none_of_le (Nat.le_refl _)) (fun _ _ e => Heap.get?_push_of_some _ e) ⟨0, Heap.get?_push_size _ rfl⟩)
theorem evalRange {e : Expr} {p pos : Pos} {Q : Value → Shared → Prop} (C : Cx w s.heap)
    (he : wpAny (model rw_pq0388_01.row.prog w) A (eval e env) (fun v s₁ => ∃ (n : Nat) (t : Tok), v = .int n t ∧ ∀ r h' tk t₁ u₁ v₁, s₁.heap.StaysIn h' → IsRange h' r 0 n 1 t₁ u₁ v₁ → Q (.ref r) { s₁ with heap := h', toks := tk }) E s)
    (hg : env.globals = mainGlobals := by rfl) (hb : env.builtins = builtinsNs := by rfl) (hk : env.scope.kind = .function := by rfl) (hx : env.kindOf "range" = some .globalImplicit := by rfl)
    (h1 : starEach [e] env = (false, eval e env) :: starEach [] env := by rfl) (h2 : eval (.Call (.Name "range" p) [e] [] pos) env = (do callWith pos (← eval (.Name "range" p) env) [] (backTo pos (starEach [e] env)) (backToKw pos (keywordEach [] env))) := by rfl) :
    wpAny (model rw_pq0388_01.row.prog w) A (eval (.Call (.Name "range" p) [e] [] pos) env) Q E s := by
  refine Call_ (nameBuiltin C (v := .type "range") rfl b3 (PyProof.Rows.callWith_type1 (spliced_more (wpAny_mono he (fun v s₁ h₁ => spliced_none ?_) fun _ _ x => x) h1) h1) hg hb hk hx) h2
  obtain ⟨n, t, rfl, hq⟩ := h₁
  exact call_range_1 (hq _ _ _ _ _ _ (fun _ _ e => Heap.get?_push_of_some _ e) (IsRange.new ..))
theorem small_nat {n : Nat} (hn : n ≤ 1000) : Builtin.Range.small 0 (n : Int) 1 = true := by
  have h : Builtin.Range.rangeSize 0 (n : Int) 1 = (n : Int) := by rw [rangeSize_one]; split <;> omega
  have fit : ∀ k : Int, -10 ≤ k → k ≤ 2000 → Builtin.Range.rangeFitsLong k = true := by
    intro k h1 h2
    unfold Builtin.Range.rangeFitsLong
    simp only [Bool.and_eq_true, decide_eq_true_eq]
    omega
  unfold Builtin.Range.small
  rw [h]
  simp only [Bool.and_eq_true, Bool.or_eq_true]
  refine ⟨⟨⟨⟨fit _ (by omega) (by omega), fit _ (by omega) (by omega)⟩, fit _ (by omega) (by omega)⟩, fit _ (by omega) (by omega)⟩, .inr ?_⟩
  rw [if_pos (by decide)]
  exact fit _ (by omega) (by omega)
theorem size_nat (n : Nat) : Builtin.Range.rangeSize 0 (n : Int) 1 = (n : Int) := by rw [rangeSize_one]; split <;> omega

/-- a draw of the law's -/
theorem evalDraw {x : Expr} {p q pos : Pos} {X : Sx} {num : Option Value} {ow : Option Value} {bs : List Addr} {os : List (Addr × List Int)} {ss : List Int} {Q : Value → Shared → Prop} (C : Cx w s.heap) (T : TS X num ow bs os ss s.heap)
    (hdp : A.depth < recursionLimit) (hcell : env.cells.lookup ("well" : Str) = some (X.L + 1))
    (hx : wpAny (model rw_pq0388_01.row.prog w) A (eval x env) (fun v s₁ => ∃ (n : Int) (t : Tok), v = .int n t ∧ 0 < n ∧ s.heap.StaysIn s₁.heap ∧
      ∀ h' tk r u, StaysBut [X.W] s₁.heap h' → WellAt h' X.gl X.W → 0 ≤ r → r < n → Q (.int r u) { s₁ with heap := h', toks := tk }) E s)
    (hg : env.globals = mainGlobals := by rfl) (hk : env.scope.kind = .function := by rfl) (hk1 : env.kindOf "well" = some .cell := by rfl) (hk2 : env.kindOf "_law_draw" = some .globalImplicit := by rfl)
    (h1 : starEach [.Name "well" q, x] env = (false, eval (.Name "well" q) env) :: starEach [x] env := by rfl) (h1' : starEach [x] env = (false, eval x env) :: starEach [] env := by rfl)
    (h2 : eval (.Call (.Name "_law_draw" p) [.Name "well" q, x] [] pos) env = (do callWith pos (← eval (.Name "_law_draw" p) env) [] (backTo pos (starEach [.Name "well" q, x] env)) (backToKw pos (keywordEach [] env))) := by rfl)
    (h3 : (backTo pos (starEach [x] env)).any (·.1) = false := by rfl) :
    wpAny (model rw_pq0388_01.row.prog w) A (eval (.Call (.Name "_law_draw" p) [.Name "well" q, x] [] pos) env) Q E s := by
  refine Call_ (nameGlob C (v := .ref 120) rfl ?_ hg hk hk2) h2
  refine callWith_K (K := KK w) C.X rfl (spliced_more (nameCell hcell T.c1 (spliced_more (wpAny_mono hx (fun v s₁ h₁ => spliced_none ?_) fun _ _ x => x) h1') hk hk1) h1) h1 h3
  obtain ⟨n, t, rfl, hn, hs, hq⟩ := h₁
  have C₁ := C.keeps hs
  refine ⟨C₁.X, wpAny_call (draw_spec C₁ hdp (T.well.keeps hs) hn fun h' tk r u hb hw h0 hlt => hq h' tk r u hb hw h0 hlt)⟩
end
end Mine

-- MTurn0
namespace Mine
open PySem.Calls PySem.Challenge
theorem intsGet {vs : List Value} {ns : List Int} (h : IntsAre vs ns) : ∀ {i : Nat} {x : Int} {t : Tok}, vs[i]? = some (.int x t) → ns[i]? = some x := by
  induction h with
  | nil => intro i x t e; simp at e
  | cons n t _ ih =>
    intro i x t' e
    cases i with
    | zero => simp at e; simp [e.1]
    | succ i => exact ih (by simpa using e)
section
variable {w : World} {A : Around} {E : Value → Shared → Prop} {s : Shared} {fa : Addr} {cd : Value} {h₀ : Heap} {m : Str → Option Value} {X : Sx} {num : Option Value} {ow : Option Value} {bs : List Addr} {os : List (Addr × List Int)} {ss : List Int}
theorem turn0 {Q : Flow → Shared → Prop} (C₀ : Cx w h₀) (SX : SxOk h₀ X) (F : Fr h₀ X.L s.heap m) (T : TS X num ow bs os ss s.heap) (hss : ss.length ≤ 100) (hh : A.handled = none) (hdp : A.depth + 50 < recursionLimit) (hu : A.units + 400 < cLine)
    (k : ∀ h' tk Z vs sm, Fr h₀ X.L h' (fun y => if y = "some" then some (.ref Z) else m y) → TS X num ow bs os ss h' → StaysBut [X.L, X.W] s.heap h' → s.heap.get? Z = none → h'.IsList Z (List.toArray vs) → IntsAre vs sm → (∀ n ∈ sm, n ∈ ss) → sm.length ≤ 3 →
      wpAny (model rw_pq0388_01.row.prog w) A (execs (lawTurn.drop 1) (lawEnv X.L fa cd)) Q E { s with heap := h', toks := tk }) :
    wpAny (model rw_pq0388_01.row.prog w) A (execs lawTurn (lawEnv X.L fa cd)) Q E s := by
  refine wpAny_execs_cons (wpAny_Assign_Name (IfExp_ ?_))
  obtain ⟨vS, hS, hiS⟩ := T.sl
  have hvS : vS.length ≤ 100 := by rw [hiS.length]; exact hss
  refine wpAny_isTrue_Compare1 (nameCell (c := X.L + 4) rfl T.c4 (List_ (spliced_none (mkList fun Z₀ h₁ hZ₀ hk₁ hl₁ => ?_))))
  refine ke_ne_ints (s := { s with heap := h₁ }) (ns := ss) (ms := []) (hS.isList.at fun o e => hk₁ _ o e) hl₁.isList hiS .nil (by show A.units + 64 < cLine; omega) (wpAny_truthy_bool ?_)
  have T₁ := T.keep SX hk₁
  have F₁ := F.keptAll hk₁
  have fin : ∀ (s' : Shared) Z vs sm, (∃ h' tk, s' = { s with heap := h', toks := tk }) → Fr h₀ X.L s'.heap m → TS X num ow bs os ss s'.heap → StaysBut [X.W] s.heap s'.heap → s.heap.get? Z = none → s'.heap.IsList Z (List.toArray vs) → IntsAre vs sm → (∀ n ∈ sm, n ∈ ss) → sm.length ≤ 3 →
      wpAny (model rw_pq0388_01.row.prog w) A (storeName (lawEnv X.L fa cd) "some" (.ref Z)) (fun _ s₂ => wpAny (model rw_pq0388_01.row.prog w) A (execs (lawTurn.drop 1) (lawEnv X.L fa cd)) Q E s₂) E s' := by
    rintro s' Z vs sm ⟨h', tk, rfl⟩ F' T' hk hZ hl hi hs hlen
    refine wpAny_storeName_local (s := { s with heap := h', toks := tk }) rfl F'.ns (fun h₂ hn₂ hs₂ => ?_) rfl
    dsimp only at hs₂ hk hl F' T'
    have hs₂ : Heap.SameBut X.L h' h₂ := hs₂
    refine k h₂ _ Z vs sm (F'.set hn₂ hs₂) (T'.loc SX (.same hs₂)) (fun b o hb e => hs₂.extBut b o (fun z => hb (by simp [z])) (hk b o (fun z => hb (by simp [List.mem_singleton.mp z])) e)) hZ ?_ hi hs hlen
    exact hl.extBut hs₂.extBut (isList_ne_ns hl F'.ns)
  by_cases hz : ss = []
  · simp only [hz, decide_true, Bool.not_true, Bool.false_eq_true, if_false]
    refine List_ (spliced_none (mkList fun Z h₂ hZ hk₂ hl₂ => ?_))
    have k2 : s.heap.StaysIn h₂ := fun b o e => hk₂ b o (hk₁ b o e)
    refine fin _ Z [] [] ⟨_, _, rfl⟩ (F.keptAll k2) (T.keep SX k2) (.of k2) ?_ hl₂.isList .nil (fun _ h => nomatch h) (by first | k_memK | simp)
    cases q : s.heap.get? Z with
    | none => rfl
    | some o => have := hk₁ _ _ q; rw [hZ] at this; cases this
  · simp only [decide_eq_false hz, Bool.not_false, if_true]
    have hpos : 0 < ss.length := Nat.pos_of_ne_zero fun e => hz (List.length_eq_zero_iff.mp e)
    rw [eval_ListComp]
    refine compG0 (use := none) (cl := [("well", X.L + 1), ("sound", X.L + 4)]) rfl (by decide) rfl (by decide) rfl ?_ (by intro _; rfl)
    refine evalRange (C₀.keeps F₁.keep) (evalDraw (s := { s with heap := h₁, toks := _ }) (C₀.keeps F₁.keep) T₁ (by omega) rfl (wpAny_Constant_int ⟨4, _, rfl, by decide, fun _ _ e => e, fun h₂ tk₂ r u hb₂ hw₂ h0 hlt => ?_⟩))
    obtain ⟨n, rfl⟩ : ∃ n : Nat, r = (n : Int) := ⟨r.toNat, by omega⟩
    refine ⟨n, u, rfl, fun rg h₃ tk₃ t₁ u₁ v₁ hk₃ hr₃ => ?_⟩
    refine wpAny_pyIter_range (s := { s with heap := h₃, toks := tk₃ }) hr₃ (small_nat (by omega)) ?_
    rw [size_nat]
    dsimp only at hb₂ hk₃
    have hWX : X.L ∉ [X.W] := by simpa using (muNe SX).1
    have hnW : ∀ b ∈ [X.W], h₀.get? b = none := fun b hb => SX.new b (by rw [List.mem_singleton.mp hb]; simp [mu])
    have F₃ : Fr h₀ X.L h₃ m := (FrBut F₁ hb₂ hWX hnW).keptAll hk₃
    have T₃ : TS X num ow bs os ss h₃ := (T₁.w SX hb₂ hw₂).keep SX hk₃
    have kS : StaysBut [X.W] s.heap h₃ := fun b o hb e => hk₃ b o (hb₂ b o hb (hk₁ b o e))
    have hIl : ∀ b, (∃ o, h₃.get? b = some o) → b ≠ h₃.objs.size := fun b ⟨o, e⟩ => Nat.ne_of_lt (ltS e)
    have hWl : ∃ o, h₃.get? X.W = some o := T₃.live F₃ X.W (by simp [mu])
    have hgl : ∃ o, h₃.get? X.gl = some o := by
      obtain ⟨_, _, _, _, _, _, _, ⟨o, e, _⟩, _⟩ := T₃.well
      exact ⟨o, e⟩
    have old : ∀ b o, h₃.get? b = some o → (h₃.push { cls := .type "range_iterator", data := .fields #[rawInt 0, rawInt (n : Int), rawInt 1] }).get? b = some o := fun b o e => Heap.get?_push_of_some _ e
    refine ⟨h₃.objs.size, [h₃.objs.size], [h₃.objs.size], [X.W], n, _, _, (fun _ _ i h ys => WellAt h X.gl X.W ∧ ∃ sm, IntsAre ys sm ∧ (∀ k ∈ sm, k ∈ ss)), rfl, Walks.range hh _ 0 1 n, by simp [sizeLine]; omega, (by show IsRangeIter _ _ _ _ _; simpa using Heap.get?_push_size _ rfl), ?_, ?_, ?_, ?_, ?_, ?_, ?_⟩
    · intro b hb
      rw [List.mem_singleton.mp hb]
      show h₃.objs.size < (h₃.push _).objs.size
      rw [Heap.size_push]; exact Nat.lt_succ_self _
    · intro b hb
      rw [List.mem_singleton.mp hb]
      obtain ⟨o, e⟩ := hWl
      exact ltS (old _ _ e)
    · intro b hb z
      rw [List.mem_singleton.mp hb] at z
      exact hIl _ hWl (List.mem_singleton.mp z).symm
    · intro C D hC hD
      exact ⟨T₃.well.keeps old, [], .nil, fun _ h => nomatch h⟩
    · intro C D hC hD i h h' ys hI hkk
      have ne : ∀ b, (∃ o, h₃.get? b = some o) → b ∉ C :: D :: [h₃.objs.size] := by
        rintro b ⟨o, e⟩ z
        have := ltS (old _ _ e)
        rcases List.mem_cons.mp z with z | z
        · rw [z] at this; exact absurd this (Nat.not_lt.mpr hC)
        · rcases List.mem_cons.mp z with z | z
          · rw [z] at this; exact absurd this (Nat.not_lt.mpr hD)
          · exact hIl b ⟨o, e⟩ (List.mem_singleton.mp z)
      exact ⟨wellBut hI.1 (ne _ hgl) (ne _ hWl) hkk, hI.2⟩
    · intro C D i v s₅ m₅ ys E' hC hD hi hv hlen hI hpl hSt hn hm hkk
      have k₅ : StaysBut [X.W] h₃ s₅.heap := fun b o hb e => hkk b o (by
        have := hIl b ⟨o, e⟩
        simp only [List.mem_append, List.mem_singleton, not_or] at hb ⊢
        exact ⟨this, hb⟩) (old _ _ e)
      have F₅ : Fr h₀ X.L s₅.heap m := FrBut F₃ k₅ hWX hnW
      have T₅ : TS X num ow bs os ss s₅.heap := T₃.w SX k₅ hI.1
      obtain ⟨sm, hIs, hsm⟩ := hI.2
      refine wpAny_pure ⟨⟨_, _, rfl, fun _ _ _ e => e⟩, ?_⟩
      simp only [if_true]
      obtain ⟨vS₅, hS₅, hiS₅⟩ := T₅.sl
      have hlS : vS₅.length = ss.length := hiS₅.length
      refine subI (nameCell (c := X.L + 4) rfl T₅.c4 (evalDraw (C₀.keeps F₅.keep) T₅ (by omega) rfl ?_))
      refine Call_ (nameBuiltin (C₀.keeps F₅.keep) (v := .builtin "len") rfl b2 (callWith_method1 (spliced_more (nameCell (c := X.L + 4) rfl T₅.c4 (spliced_none ?_)))))
      refine len_list hS₅.isList (by rw [List.size_toArray]; omega) ?_
      refine ⟨_, _, rfl, by rw [List.size_toArray]; omega, fun _ _ e => e, fun h' tk' r u hb' hw' h0 hlt' => ?_⟩
      dsimp only at hb'
      have hlt2 : r.toNat < vS₅.length := by rw [List.size_toArray] at hlt'; omega
      obtain ⟨x, tx, hx⟩ := hiS₅.all vS₅[r.toNat] (List.getElem_mem hlt2)
      have hS' : h'.IsList X.S (List.toArray vS₅) := listBut hS₅.isList (by
        have := (muNe SX).2.2.2.2.2.2.2.2.2.2.2.2.2.2.1
        simpa using Ne.symm this) hb'
      refine ⟨X.S, vS₅, r, u, .int x tx, rfl, rfl, hS', h0, by omega, by rw [List.getElem?_eq_getElem hlt2, hx], ?_⟩
      refine ⟨⟨_, _, rfl, hb'⟩, hw', sm ++ [x], hIs.append (.cons x tx .nil), ?_⟩
      intro k hk
      rcases List.mem_append.mp hk with hk | hk
      · exact hsm k hk
      · rw [List.mem_singleton.mp hk]
        exact List.mem_of_getElem? (intsGet hiS₅ (i := r.toNat) (x := x) (t := tx) (by rw [List.getElem?_eq_getElem hlt2, hx]))
    · intro C D h' tk m' ys hC hD hDC hlen hn hpl hI hkk
      obtain ⟨sm, hIs, hsm⟩ := hI.2
      have lt_of : ∀ b, (∃ o, h₃.get? b = some o) → b ≠ C ∧ b ≠ D ∧ b ≠ h₃.objs.size := by
        rintro b ⟨o, e⟩
        have := ltS (old _ _ e)
        exact ⟨fun z => by rw [z] at this; exact absurd this (Nat.not_lt.mpr hC), fun z => by rw [z] at this; exact absurd this (Nat.not_lt.mpr hD), hIl b ⟨o, e⟩⟩
      refine ⟨m', hn, fun h'' hs'' => ?_⟩
      have kk : StaysBut [X.W] h₃ h'' := fun b o hb e => hs''.extBut b o (lt_of b ⟨o, e⟩).1 (hkk b o (by
        simp only [List.mem_append, List.mem_singleton, not_or] at hb ⊢
        exact ⟨(lt_of b ⟨o, e⟩).2.2, hb⟩) (old _ _ e))
      have hw'' : WellAt h'' X.gl X.W := wellBut hI.1 (by simpa using (lt_of _ hgl).1) (by simpa using (lt_of _ hWl).1) (StaysBut.same hs'')
      refine fin _ D ys sm ⟨_, _, rfl⟩ (FrBut F₃ kk hWX hnW) (T₃.w SX kk hw'') (fun b o hb e => kk b o hb (kS b o hb e)) ?_ (hpl.isList.extBut hs''.extBut hDC) hIs hsm (by rw [← hIs.length]; omega)
      cases q : s.heap.get? D with
      | none => rfl
      | some o =>
        by_cases hDW : D ∈ [X.W]
        · exact absurd (List.mem_singleton.mp hDW) (lt_of _ hWl).2.1.symm
        · exact absurd rfl (lt_of D ⟨o, kS _ _ hDW q⟩).2.1
end
end Mine

-- MTurn1
namespace Mine
open PySem.Calls PySem.Challenge
theorem intsMem {vs : List Value} {ns : List Int} (h : IntsAre vs ns) {x : Int} {t : Tok} (e : Value.int x t ∈ vs) : x ∈ ns := by
  obtain ⟨i, hi, e⟩ := List.mem_iff_getElem.mp e
  exact List.mem_of_getElem? (intsGet h (i := i) (x := x) (t := t) (by rw [List.getElem?_eq_getElem hi, e]))
theorem b4 : bootBuiltins "str" = some (.type "str") := by kernel_rfl
theorem digit_len {n : Int} (h0 : 0 ≤ n) (h1 : n < 100) : (Str.ofString (toString n)).length ≤ 102 := by
  have := len_str_of_int n
  omega
theorem refsOf {h : Heap} {bs : List Addr} {sm : List Int} {vs : List Value} (hi : IntsAre vs sm) (hr : ∀ n ∈ sm, 0 ≤ n ∧ n.toNat < bs.length) : ∀ {ys : List Value}, Paired (EltIs (fun v y => ∀ n t, v = Value.int n t → y = refAt bs n) (fun _ _ _ => False) h) vs ys → ys = sm.map (refAt bs) := by
  induction hi with
  | nil => intro ys P; cases P; rfl
  | cons n t _ ih =>
    intro ys P
    cases P with
    | cons hy P =>
      rw [ih (fun k hk => hr k (.tail _ hk)) P]
      rcases hy with hy | ⟨_, _, _, _, hy⟩
      · rw [hy n t rfl]; rfl
      · exact hy.elim
section
variable {w : World} {A : Around} {E : Value → Shared → Prop} {s : Shared} {fa : Addr} {cd : Value} {h₀ : Heap} {m : Str → Option Value} {X : Sx} {ow : Option Value} {bs : List Addr} {os : List (Addr × List Int)} {ss : List Int}
theorem turn1 {Q : Flow → Shared → Prop} {n : Int} {tn : Tok} {Z : Addr} {vs : List Value} {sm : List Int} (C₀ : Cx w h₀) (SX : SxOk h₀ X) (F : Fr h₀ X.L s.heap m) (T : TS X (some (.int n tn)) ow bs os ss s.heap) (hh : A.handled = none) (hdp : A.depth + 50 < recursionLimit) (hu : A.units + 400 < cLine)
    (hbs : bs.length ≤ 100) (hn0 : 0 ≤ n) (hn1 : n < 100) (hm : m "some" = some (.ref Z)) (hZ : s.heap.IsList Z (List.toArray vs)) (hZm : Z ∉ mu X) (hi : IntsAre vs sm) (hr : ∀ n ∈ sm, 0 ≤ n ∧ n.toNat < bs.length) (hlen : sm.length ≤ 3)
    (k : ∀ h' tk x dx bl tl, Fr h₀ X.L h' m → SxOk h₀ (setD X dx) → TS (setD X dx) (some (.int n tn)) (some (.ref x)) bs os ss h' → dx ∉ mu X → s.heap.get? dx = none → StaysBut [X.L + 6] s.heap h' → x ∉ mx (setD X dx) → x ∉ bs → h₀.get? dx = none →
      InstD h' x dx 101 (fun z => if z = "bases" then some (.ref bl) else onlyLine (.int (10 + n) tl) z) → h'.IsList bl (List.toArray (sm.map (refAt bs))) → bl ∉ mx (setD X dx) →
      wpAny (model rw_pq0388_01.row.prog w) A (execs (lawTurn.drop 3) (lawEnv X.L fa cd)) Q E { s with heap := h', toks := tk }) :
    wpAny (model rw_pq0388_01.row.prog w) A (execs (lawTurn.drop 1) (lawEnv X.L fa cd)) Q E s := by
  have C := C₀.keeps F.keep
  refine wpAny_execs_cons (wpAny_Assign_Name (Call_ (nameGlob C (v := .ref 104) rfl (callWith_K (K := KK w) C.X rfl (spliced_more (wpAny_Constant_str (spliced_more (wpAny_BinOp (wpAny_Constant_str ?_)))))))))
  refine Call_ (nameBuiltin (s := { s with heap := s.heap, toks := _ }) C (v := .type "str") rfl b4 (PyProof.Rows.callWith_type1 (spliced_more (nameCell (c := X.L + 5) rfl T.c5 (spliced_none ?_)))))
  refine PyProof.Rows.str_of_int_fit (N := 100) (by split <;> omega) (by decide) fun _ => ?_
  refine PyProof.Rows.add_str (fun t' tk' => ?_) (by
    have := digit_len hn0 hn1
    have e : (Str.ofString "C").length = 1 := by decide
    rw [e, sizeLine_eq]; omega)
  refine spliced_more (wpAny_BinOp (wpAny_Constant_int (nameCell (s := { s with heap := s.heap, toks := _ }) (c := X.L + 5) rfl T.c5 (PySem.P.add_int ?_))))
  refine spliced_none ⟨C.X, wpAny_call (makeDecl (s := { s with heap := s.heap, toks := _ }) C (by omega) fun h₁ tk₁ x dx hk₁ hx hdx _ _ I₁ => ?_)⟩
  obtain ⟨tl, I₁⟩ : ∃ tl, InstD h₁ x dx 100 (onlyLine (.int (10 + n) tl)) := ⟨_, I₁⟩
  dsimp only at hk₁ hx hdx ⊢
  have F₁ := F.keptAll hk₁
  have T₁ : TS (setD X dx) (some (.int n tn)) ow bs os ss h₁ := (T.setD hdx).keep (SX.setD T hdx) hk₁
  have SX₁ := SX.setD T hdx
  have hdxm : dx ∉ mu X := fun z => by
    obtain ⟨o, e⟩ := T.live F dx z
    rw [hdx] at e; cases e
  have hxm : x ∉ mu X := fun z => by
    obtain ⟨o, e⟩ := T.live F x z
    rw [hx] at e; cases e
  have hxdx : x ≠ dx := by
    rintro rfl
    obtain ⟨es, nn, e, _⟩ := I₁.dict
    have := I₁.inst
    rw [e] at this; cases this
  -- own
  refine wpAny_storeName_cell (s := { s with heap := h₁, toks := tk₁ }) (c := X.L + 6) rfl rfl rfl T₁.c6 fun h₂ hv₂ hs₂ => ?_
  dsimp only at hs₂ ⊢
  have ne6 : ∀ b, b ∉ mu X → b ≠ X.L + 6 := fun b hb z => hb (by rw [z]; simp [mu])
  have F₂ : Fr h₀ X.L h₂ m := F₁.change hs₂ (fun z => absurd z (addNe (b := 0) (by decide))) (SX.new _ (by simp [mu]))
  have T₂ : TS (setD X dx) (some (.int n tn)) (some (.ref x)) bs os ss h₂ := T₁.o SX₁ (.same hs₂) hv₂
  have I₂ := I₁.at (h' := h₂) (fun o e => hs₂.extBut _ o (ne6 x hxm) e) (fun o e => hs₂.extBut _ o (ne6 dx hdxm) e)
  have hZ₂ : h₂.IsList Z (List.toArray vs) := (hZ.at fun o e => hk₁ _ o e).extBut hs₂.extBut (ne6 Z hZm)
  have k₂ : StaysBut [X.L + 6] s.heap h₂ := fun b o hb e => hs₂.extBut b o (fun z => hb (by simp [z])) (hk₁ b o e)
  -- own.bases = [built[base] for base in some]
  refine wpAny_execs_cons (plainObj_wpAny_Assign_Attribute ?_)
  refine compR (s := { s with heap := h₂, toks := tk₁ }) (fun _ => true) (fun v y => ∀ n t, v = Value.int n t → y = refAt bs n) (fun _ _ _ => False) hh (cl := [("built", X.L + 2)]) rfl (by decide) rfl (by decide) rfl ?_
  have hvl : vs.length ≤ 3 := by rw [hi.length]; exact hlen
  refine nameLoc (v := .ref Z) F₂.ns hm ⟨Z, vs, rfl, hZ₂, by simp [sizeLine]; omega, ?_, ?_, ?_⟩
  · intro C' v s₃ m₃ E' hv F₃' hm₃
    exact wpAny_pure ⟨rfl, _, _, rfl, fun _ _ e => e⟩
  · intro C' v s₃ m₃ E' hv _ F₃' hm₃
    obtain ⟨j, t, rfl⟩ := hi.all v hv
    have hj := hr j (intsMem hi hv)
    have hb' : ∃ c, bs[j.toNat]? = some c := ⟨_, List.getElem?_eq_getElem hj.2⟩
    obtain ⟨c, hc⟩ := hb'
    refine subI (nameCell (c := X.L + 2) rfl (cellKeeps T₂.c2 F₃'.keep) (nameLoc (m := m₃) F₃'.ns hm₃ ⟨X.B, _, j, t, .ref c, rfl, rfl, F₃'.lst T₂.bl.isList, hj.1, ?_, ?_, ?_⟩))
    · have := hj.2; omega
    · simp [hc]
    · refine ⟨.inl fun n' t' e => ?_, _, _, rfl, fun _ _ e => e⟩
      cases e
      simp [refAt, hc]
  intro bl h₃ tk₃ ys hbl hplb hP hlen₃ hk₃
  dsimp only at hbl hk₃ hlen₃ ⊢
  have hft : vs.filter (fun _ => true) = vs := by simp
  rw [hft] at hP
  have hys := refsOf hi hr hP
  subst hys
  have F₃ := F₂.keptAll hk₃
  have T₃ := T₂.keep SX₁ hk₃
  have I₃ := I₂.at (h' := h₃) (fun o e => hk₃ _ o e) (fun o e => hk₃ _ o e)
  refine nameCell (s := { s with heap := h₃, toks := tk₃ }) (c := X.L + 6) rfl T₃.c6 ?_
  refine setInst (s := { s with heap := h₃, toks := tk₃ }) (C₀.keeps F₃.keep).X I₃ (by decide) rfl fun h₄ tk₄ hs₄ I₄ => ?_
  dsimp only at hs₄ ⊢
  have T₄ := T₃.d SX₁ hdxm (.same hs₄)
  have hdx0 : h₀.get? dx = none := by
    cases q : h₀.get? dx with
    | none => rfl
    | some o => have := F.keep _ _ q; rw [hdx] at this; cases this
  have F₄ : Fr h₀ X.L h₄ m := F₃.change hs₄ (fun z => hdxm (by rw [z]; simp [mu])) hdx0
  have hblm : bl ∉ mx (setD X dx) := by
    intro z
    rcases List.mem_cons.mp z with z | z
    · obtain ⟨es, nn, e, _⟩ := I₂.dict
      rw [z] at hbl; exact absurd (hbl.symm.trans e) (fun z => nomatch z)
    · obtain ⟨o, e⟩ := T₂.live F₂ bl z
      rw [hbl] at e; cases e
  refine k h₄ tk₄ x dx bl tl F₄ SX₁ T₄ hdxm hdx (fun b o hb e => hs₄.extBut b o (fun z => ?_) (hk₃ b o (k₂ b o hb e))) (fun z => ?_) (fun z => ?_) hdx0 ?_ ?_ hblm
  · rw [z, hdx] at e; cases e
  · rcases List.mem_cons.mp z with z | z
    · exact hxdx z
    · exact hxm z
  · obtain ⟨o, e, _⟩ := (T.decl x z).2
    rw [hx] at e; cases e
  · exact ⟨I₄.inst, I₄.dict⟩
  · exact hplb.isList.extBut hs₄.extBut (fun z => hblm (by rw [z]; exact .head _))
end
end Mine

-- MTurn3
namespace Mine
open PySem.Calls PySem.Challenge
theorem addL {prog : Program} {w : World} {A : Around} {E : Value → Shared → Prop} {s : Shared} {l b : Addr} {vs ws : List Value} {Q : Value → Shared → Prop} (hl : s.heap.IsList l vs.toArray) (hb : s.heap.IsList b ws.toArray)
    (h : ∀ D h', s.heap.get? D = none → s.heap.StaysIn h' → h'.PlainList D (List.toArray (vs ++ ws)) → Q (.ref D) { s with heap := h' }) (hsz : vs.length + ws.length ≤ sizeLine) :
    wpAny (model prog w) A (binaryOp .Add (.ref l) (.ref b)) Q E s := by
  obtain ⟨⟨cls, dd, data, sl⟩, ho, hc, n, hd⟩ := id hl
  obtain ⟨⟨cls2, dd2, data2, sl2⟩, ho2, hc2, n2, hd2⟩ := id hb
  simp only at hc hd hc2 hd2
  subst hc hd hc2 hd2
  have e : vs.toArray ++ ws.toArray = (vs ++ ws).toArray := by simp
  refine concat_meets ⟨_, ho, rfl⟩ ⟨_, ho2, rfl⟩ noFill_list_add seq_list_add PySem.F.slot_list_add PySem.F.entry_list_add (PySem.F.args_list_add_2 _ _) (list_addW l b vs.toArray ws.toArray n n2 dd dd2 sl sl2 (by simpa using hsz)) ⟨ho, ho2, ?_⟩
  rw [e]
  exact h _ _ (none_of_le (Nat.le_refl _)) (fun _ _ e => Heap.get?_push_of_some _ e) ⟨0, Heap.get?_push_size _ rfl⟩
theorem refAt_append {bs : List Addr} {x : Addr} {n : Int} (h : n.toNat < bs.length) : refAt (bs ++ [x]) n = refAt bs n := by
  unfold refAt
  rw [List.getElem?_append_left h]
section
variable {w : World} {A : Around} {E : Value → Shared → Prop} {s : Shared} {fa : Addr} {cd : Value} {h₀ : Heap} {m : Str → Option Value} {X : Sx} {num : Option Value} {ow : Option Value} {bs : List Addr} {os : List (Addr × List Int)} {ss : List Int}
/-- built.append(own) -/
theorem turn3 {Q : Flow → Shared → Prop} {x : Addr} (SX : SxOk h₀ X) (F : Fr h₀ X.L s.heap m) (T : TS X num (some (.ref x)) bs os ss s.heap) (hx : x ∉ mx X) (hxb : x ∉ bs) (hd : DeclAt s.heap x) (hbs : bs.length ≤ 100)
    (k : ∀ h', Fr h₀ X.L h' m → TS X num (some (.ref x)) (bs ++ [x]) os ss h' → StaysBut [X.B] s.heap h' → wpAny (model rw_pq0388_01.row.prog w) A (execs (lawTurn.drop 4) (lawEnv X.L fa cd)) Q E { s with heap := h' }) :
    wpAny (model rw_pq0388_01.row.prog w) A (execs (lawTurn.drop 3) (lawEnv X.L fa cd)) Q E s := by
  obtain ⟨nB, hB⟩ := T.bl
  refine wpAny_execs_cons (appendStmt (nameCell (c := X.L + 2) rfl T.c2 ⟨X.B, _, _, rfl, hB, nameCell (c := X.L + 6) rfl T.c6 ⟨_, _, hB, by simp [sizeLine]; omega, fun h' hs ho => ?_⟩⟩))
  obtain ⟨a1, a2, a3, a4, a5, a6, a7, a8, a9, a10, a11, a12, a13, a14, a15, a16, a17, a18⟩ := muNe SX
  have kk : StaysBut [X.B] s.heap h' := .same hs
  have km : StaysBut (mx X) s.heap h' := kk.mono fun b hb => by rw [List.mem_singleton.mp hb]; simp [mx, mu]
  have hB' : h'.PlainList X.B (List.toArray ((bs ++ [x]).map Value.ref)) := by
    have e : (List.toArray (bs.map Value.ref)).push (Value.ref x) = List.toArray ((bs ++ [x]).map Value.ref) := by simp
    rw [e] at ho
    exact ⟨_, ho⟩
  have hg : X.gl ∉ [X.B] := fun z => SX.g (by rw [List.mem_singleton.mp z]; simp [mx, mu])
  refine k h' (F.change hs (Ne.symm a2) (SX.new _ (by simp [mu]))) ⟨cellBut T.c1 SX.c1 km, cellBut T.c2 SX.c2 km, cellBut T.c3 SX.c3 km, cellBut T.c4 SX.c4 km, cellBut T.c5 (by simpa using a6) kk, cellBut T.c6 (by simpa using a10) kk,
    wellBut T.well hg (by simpa using a13) kk, hB', plainBut T.ol (by simpa using Ne.symm a16) kk, ?_, ?_, fun q hq => ⟨(T.ords q hq).1, let ⟨vs, a, b⟩ := (T.ords q hq).2; ⟨vs, listBut a (T.ords q hq).1 km, b⟩⟩, ?_, ?_⟩ kk
  · obtain ⟨vs, a, b⟩ := T.sl
    exact ⟨vs, plainBut a (by simpa using Ne.symm a17) kk, b⟩
  · intro c hc
    have go : ∀ c, c ∉ mx X → DeclAt s.heap c → c ∉ mx X ∧ DeclAt h' c := fun c h1 ⟨o, e, r⟩ => ⟨h1, o, km _ _ h1 e, r⟩
    rcases List.mem_append.mp hc with hc | hc
    · exact go c (T.decl c hc).1 (T.decl c hc).2
    · rw [List.mem_singleton.mp hc]; exact go x hx hd
  · intro n hn
    obtain ⟨p, c, q, lin, a, b, d, e, f, g⟩ := (T.lins n hn).but (fun c hc => (T.decl c hc).1) km
    have hlt : n.toNat < bs.length := by
      rcases Nat.lt_or_ge n.toNat bs.length with h | h
      · exact h
      · rw [List.getElem?_eq_none h] at a; cases a
    refine ⟨p, c, q, lin, by rw [List.getElem?_append_left hlt]; exact a, b, d, e, ?_, fun k hk => ⟨(g k hk).1, by rw [List.length_append]; have := (g k hk).2; omega⟩⟩
    have : q.2.map (refAt (bs ++ [x])) = q.2.map (refAt bs) := List.map_congr_left fun k hk => refAt_append (g k hk).2
    rw [this]; exact f
  · rw [List.nodup_append]
    exact ⟨T.nod, by simp, fun a ha b hb z => hxb (by rw [← List.mem_singleton.mp hb, ← z]; exact ha)⟩

def ordAt (os : List (Addr × List Int)) (n : Int) : Addr × List Int := (os[n.toNat]?).getD (0, [])
theorem ordsOf {h : Heap} {os : List (Addr × List Int)} {sm : List Int} {vs : List Value} (hi : IntsAre vs sm) : ∀ {ys : List Value}, Paired (EltIs (fun v y => ∀ n t, v = Value.int n t → y = .ref (ordAt os n).1) (fun _ _ _ => False) h) vs ys → ys = sm.map fun n => .ref (ordAt os n).1 := by
  induction hi with
  | nil => intro ys P; cases P; rfl
  | cons n t _ ih =>
    intro ys P
    cases P with
    | cons hy P =>
      rw [ih P]
      rcases hy with hy | ⟨_, _, _, _, hy⟩
      · rw [hy n t rfl]; rfl
      · exact hy.elim
/-- due = _law_ordered([orders[base] for base in some[::-1]] + [some[::-1]]) -/
theorem turn4 {Q : Flow → Shared → Prop} {Z : Addr} {vs : List Value} {sm : List Int} (C₀ : Cx w h₀) (SX : SxOk h₀ X) (F : Fr h₀ X.L s.heap m) (T : TS X num ow bs os ss s.heap) (hh : A.handled = none) (hdp : A.depth + 50 < recursionLimit) (hu : A.units + 400 < cLine)
    (hm : m "some" = some (.ref Z)) (hZ : s.heap.IsList Z (List.toArray vs)) (hi : IntsAre vs sm) (hr : ∀ n ∈ sm, 0 ≤ n ∧ n.toNat < os.length) (hlen : sm.length ≤ 3) (hos : os.length ≤ 100) (hsz : ∀ n ∈ sm, (ordAt os n).2.length ≤ 100000)
    (k : ∀ h' tk v, Fr h₀ X.L h' (fun y => if y = "due" then some v else m y) → TS X num ow bs os ss h' → StaysBut [X.L] s.heap h' →
      (match ordered (sm.reverse.map (fun n => (ordAt os n).2) ++ [sm.reverse]) with
        | none => v = .none
        | some due => ∃ D ds, v = .ref D ∧ s.heap.get? D = none ∧ h'.IsList D (List.toArray ds) ∧ IntsAre ds due) →
      wpAny (model rw_pq0388_01.row.prog w) A (execs (lawTurn.drop 5) (lawEnv X.L fa cd)) Q E { s with heap := h', toks := tk }) :
    wpAny (model rw_pq0388_01.row.prog w) A (execs (lawTurn.drop 4) (lawEnv X.L fa cd)) Q E s := by
  have C := C₀.keeps F.keep
  have hvl : vs.length ≤ 3 := by rw [hi.length]; exact hlen
  refine wpAny_execs_cons (wpAny_Assign_Name (Call_ (nameGlob C (v := .ref 130) rfl (callWith_K (K := KK w) C.X rfl (spliced_more (wpAny_BinOp ?_))))))
  refine compR (fun _ => true) (fun v y => ∀ n t, v = Value.int n t → y = .ref (ordAt os n).1) (fun _ _ _ => False) hh (cl := [("orders", X.L + 3)]) rfl (by decide) rfl (by decide) rfl ?_
  refine sliceRevA (nameLoc (v := .ref Z) F.ns hm ⟨Z, vs, rfl, hZ, by simp [sizeLine]; omega, fun Z₁ h₁ tk₁ hZ₁ hpl₁ hk₁ => ?_⟩)
  dsimp only at hZ₁ hk₁ ⊢
  have hir := hi.reverse
  have F₁ := F.keptAll hk₁
  have T₁ := T.keep SX hk₁
  refine ⟨Z₁, vs.reverse, rfl, hpl₁.isList, by simp [sizeLine]; omega, ?_, ?_, ?_⟩
  · intro C' v s₃ m₃ E' hv F₃' hm₃
    exact wpAny_pure ⟨rfl, _, _, rfl, fun _ _ e => e⟩
  · intro C' v s₃ m₃ E' hv _ F₃' hm₃
    obtain ⟨j, t, rfl⟩ := hir.all v hv
    have hj := hr j (List.mem_reverse.mp (intsMem hir hv))
    obtain ⟨q, hq⟩ : ∃ q, os[j.toNat]? = some q := ⟨_, List.getElem?_eq_getElem hj.2⟩
    refine subI (nameCell (c := X.L + 3) rfl (cellKeeps T₁.c3 F₃'.keep) (nameLoc (m := m₃) F₃'.ns hm₃ ⟨X.O, _, j, t, .ref q.1, rfl, rfl, F₃'.lst T₁.ol.isList, hj.1, ?_, ?_, ?_⟩))
    · have := hj.2; omega
    · simp [hq]
    · refine ⟨.inl fun n' t' e => ?_, _, _, rfl, fun _ _ e => e⟩
      cases e
      simp [ordAt, hq]
  intro G h₂ tk₂ ys hG hplG hP hlen₂ hk₂
  have hft : vs.reverse.filter (fun _ => true) = vs.reverse := by simp
  rw [hft] at hP
  have hys := ordsOf hir hP
  subst hys
  clear hP hft
  have F₂ := F₁.keptAll hk₂
  have T₂ := T₁.keep SX hk₂
  -- [some[::-1]]
  refine List_ (spliced_more ?_)
  refine sliceRevA (nameLoc (s := { s with heap := h₂, toks := tk₂ }) (v := .ref Z) F₂.ns hm ⟨Z, vs, rfl, (hZ.at fun o e => hk₁ _ o e).at fun o e => hk₂ _ o e, by simp [sizeLine]; omega, fun Z₃ h₃ tk₃ hZ₃ hpl₃ hk₃ => ?_⟩)
  dsimp only at hZ₃ hk₃ ⊢
  refine spliced_none (mkList (s := { s with heap := h₃, toks := tk₃ }) fun Y h₄ hY hk₄ hplY => ?_)
  dsimp only at hY hk₄ ⊢
  have hG₄ : h₄.IsList G (List.toArray (sm.reverse.map fun n => Value.ref (ordAt os n).1)) := (hplG.isList.at fun o e => hk₃ _ o e).at fun o e => hk₄ _ o e
  refine addL (s := { s with heap := h₄, toks := tk₃ }) hG₄ hplY.isList (fun ln h₅ hln hk₅ hpl₅ => ?_) (by simp [sizeLine]; omega)
  dsimp only at hln hk₅ ⊢
  have k₃ : h₂.StaysIn h₅ := fun b o e => hk₅ b o (hk₄ b o (hk₃ b o e))
  have F₅ := F₂.keptAll k₃
  have T₅ := T₂.keep SX k₃
  have C₅ := C₀.keeps F₅.keep
  refine spliced_none ⟨C₅.X, wpAny_call ?_⟩
  have hlines : (sm.reverse.map (ordAt os) ++ [(Z₃, sm.reverse)]).map Prod.snd = sm.reverse.map (fun n => (ordAt os n).2) ++ [sm.reverse] := by simp
  have hZ₅ : h₅.IsList Z₃ (List.toArray vs.reverse) := (hpl₃.isList.at fun o e => hk₄ _ o e).at fun o e => hk₅ _ o e
  refine ordered_spec (s := { s with heap := h₅, toks := tk₃ }) (ln := ln) (lines := sm.reverse.map (ordAt os) ++ [(Z₃, sm.reverse)]) C₅ hh (by omega) (by show A.units + 200 < cLine; omega) ⟨?_, ?_⟩ ?_ ?_ ?_
  · have e : (sm.reverse.map (ordAt os) ++ [(Z₃, sm.reverse)]).map (fun q => Value.ref q.1) = (sm.reverse.map fun n => Value.ref (ordAt os n).1) ++ [Value.ref Z₃] := by
      rw [List.map_append, List.map_map]; rfl
    show h₅.IsList ln (List.toArray ((sm.reverse.map (ordAt os) ++ [(Z₃, sm.reverse)]).map (fun q => Value.ref q.1)))
    rw [e]
    exact hpl₅.isList
  · intro q hq
    rcases List.mem_append.mp hq with hq | hq
    · obtain ⟨n, hn, rfl⟩ := List.mem_map.mp hq
      have hj := hr n (List.mem_reverse.mp hn)
      obtain ⟨q, hq⟩ : ∃ q, os[n.toNat]? = some q := ⟨_, List.getElem?_eq_getElem hj.2⟩
      have : ordAt os n = q := by simp [ordAt, hq]
      rw [this]
      obtain ⟨_, us, a, b⟩ := T₅.ords q (List.mem_of_getElem? hq)
      exact ⟨us, a, b⟩
    · rw [List.mem_singleton.mp hq]
      exact ⟨vs.reverse, hZ₅, hir⟩
  · simp; omega
  · rw [hlines]
    simp only [List.map_append, List.map_cons, List.map_nil, List.sum_append, List.sum_cons, List.sum_nil, List.length_reverse]
    have : ∀ l : List Int, (∀ n ∈ l, (ordAt os n).2.length ≤ 100000) → ((l.map fun n => (ordAt os n).2).map List.length).sum ≤ l.length * 100000 := by
      intro l
      induction l with
      | nil => intro _; simp
      | cons a l ih =>
        intro h
        have := ih fun n hn => h n (.tail _ hn)
        have := h a (.head _)
        simp only [List.map_cons, List.sum_cons, List.length_cons]
        omega
    have := this sm.reverse fun n hn => hsz n (List.mem_reverse.mp hn)
    rw [List.length_reverse] at this
    omega
  intro h₆ tk₆ v hk₆ hv
  rw [hlines] at hv
  dsimp only at hk₆ hv ⊢
  have F₆ := F₅.keptAll hk₆
  have T₆ := T₅.keep SX hk₆
  have up : s.heap.StaysIn h₆ := fun b o e => hk₆ b o (k₃ b o (hk₂ b o (hk₁ b o e)))
  refine wpAny_storeName_local (s := { s with heap := h₆, toks := tk₆ }) rfl F₆.ns (fun h₇ hn₇ hs₇ => ?_) rfl
  have hs₇ : Heap.SameBut X.L h₆ h₇ := hs₇
  refine k h₇ _ v (F₆.set hn₇ hs₇) (T₆.loc SX (.same hs₇)) (fun b o hb e => hs₇.extBut b o (fun z => hb (by simp [z])) (up b o e)) ?_
  cases ho : ordered (sm.reverse.map (fun n => (ordAt os n).2) ++ [sm.reverse]) with
  | none => rw [ho] at hv; exact hv
  | some due =>
    rw [ho] at hv
    obtain ⟨D, ds, rfl, hD, hpl, hI⟩ := hv
    refine ⟨D, ds, rfl, ?_, hpl.isList.extBut hs₇.extBut (isList_ne_ns hpl.isList F₆.ns), hI⟩
    cases q : s.heap.get? D with
    | none => rfl
    | some o => have := k₃ _ _ (hk₂ _ _ (hk₁ _ _ q)); rw [hD] at this; cases this
end
end Mine

-- MTurn5
namespace Mine
open PySem.Calls PySem.Challenge
def DueIs (h : Heap) (v : Value) : Option (List Int) → Prop
  | none => v = .none
  | some due => ∃ D ds, v = .ref D ∧ h.IsList D (List.toArray ds) ∧ IntsAre ds due
theorem DueIs.keeps {h h' : Heap} {v : Value} {o : Option (List Int)} (x : DueIs h v o) (k : h.StaysIn h') : DueIs h' v o := by
  cases o with
  | none => exact x
  | some due =>
    obtain ⟨D, ds, e, a, b⟩ := x
    exact ⟨D, ds, e, a.at fun o e => k _ o e, b⟩
def orderOf (n : Int) : Option (List Int) → List Int
  | none => []
  | some due => n :: due
section
variable {w : World} {A : Around} {E : Value → Shared → Prop} {s : Shared} {fa : Addr} {cd : Value} {h₀ : Heap} {m : Str → Option Value} {X : Sx} {ow : Option Value} {bs : List Addr} {os : List (Addr × List Int)} {ss : List Int}
theorem mkTuple {M : Model} {vs : List Value} {Q : Value → Shared → Prop} (h : ∀ D h', s.heap.get? D = none → s.heap.StaysIn h' → IsTup h' D (List.toArray vs) → Q (.ref D) { s with heap := h' }) (hsz : vs.length ≤ sizeLine := by simp [sizeLine]) : wpAny M A (newTuple vs) Q E s :=
  wpAny_newObj_type (h _ _ (none_of_le (Nat.le_refl _)) (fun _ _ e => Heap.get?_push_of_some _ e) ⟨_, Heap.get?_push_size _ rfl, rfl, 0, rfl⟩)
/-- orders.append([] if due is None else [number] + due) -/
theorem turn5 {Q : Flow → Shared → Prop} {n : Int} {tn : Tok} {v : Value} {o : Option (List Int)} (SX : SxOk h₀ X) (F : Fr h₀ X.L s.heap m) (T : TS X (some (.int n tn)) ow bs os ss s.heap)
    (hm : m "due" = some v) (hv : DueIs s.heap v o) (hsz : (orderOf n o).length ≤ 1000000) (hos : os.length ≤ 100) (hDl : ∃ o, s.heap.get? X.D = some o)
    (k : ∀ h' tk oa, Fr h₀ X.L h' m → TS X (some (.int n tn)) ow bs (os ++ [(oa, orderOf n o)]) ss h' → StaysBut [X.O] s.heap h' → wpAny (model rw_pq0388_01.row.prog w) A (execs (lawTurn.drop 6) (lawEnv X.L fa cd)) Q E { s with heap := h', toks := tk }) :
    wpAny (model rw_pq0388_01.row.prog w) A (execs (lawTurn.drop 5) (lawEnv X.L fa cd)) Q E s := by
  obtain ⟨nO, hO⟩ := T.ol
  obtain ⟨a1, a2, a3, a4, a5, a6, a7, a8, a9, a10, a11, a12, a13, a14, a15, a16, a17, a18⟩ := muNe SX
  have fin : ∀ (s' : Shared) oa us, (∃ h' tk, s' = { s with heap := h', toks := tk }) → s.heap.StaysIn s'.heap → s.heap.get? oa = none → s'.heap.PlainList oa (List.toArray us) → IntsAre us (orderOf n o) → ∃ its nn, s'.heap.get? X.O = some (listOf its nn) ∧ its.size ≤ sizeLine ∧
      ∀ h', Heap.SameBut X.O s'.heap h' → h'.get? X.O = some (listOf (its.push (.ref oa)) (nn + 1)) → wpAny (model rw_pq0388_01.row.prog w) A (execs (lawTurn.drop 6) (lawEnv X.L fa cd)) Q E { s' with heap := h' } := by
    rintro s' oa us ⟨h₁, tk, rfl⟩ hk hoa hpl hI
    have hoam := T.fresh F hoa
    have T₁ := T.keep SX hk
    refine ⟨_, nO, hk _ _ hO, by simp [sizeLine]; omega, fun h' hs ho => ?_⟩
    dsimp only at hs ho hpl T₁ ⊢
    have kk : StaysBut [X.O] h₁ h' := .same hs
    have km : StaysBut (mx X) h₁ h' := kk.mono fun b hb => by rw [List.mem_singleton.mp hb]; simp [mx, mu]
    have hO' : h'.PlainList X.O (List.toArray ((os ++ [(oa, orderOf n o)]).map fun q => Value.ref q.1)) := by
      have e : (List.toArray (os.map fun q => Value.ref q.1)).push (Value.ref oa) = List.toArray ((os ++ [(oa, orderOf n o)]).map fun q => Value.ref q.1) := by simp
      rw [e] at ho
      exact ⟨_, ho⟩
    have hg : X.gl ∉ [X.O] := fun z => SX.g (by rw [List.mem_singleton.mp z]; simp [mx, mu])
    have hoaD : oa ∉ mx X := by
      intro z
      rcases List.mem_cons.mp z with z | z
      · exact liveNe hDl hoa z.symm
      · exact hoam z
    refine k h' tk oa ((F.keptAll hk).change hs (Ne.symm a3) (SX.new _ (by simp [mu]))) ⟨cellBut T₁.c1 SX.c1 km, cellBut T₁.c2 SX.c2 km, cellBut T₁.c3 SX.c3 km, cellBut T₁.c4 SX.c4 km, cellBut T₁.c5 (by simpa using a7) kk, cellBut T₁.c6 (by simpa using a11) kk,
      wellBut T₁.well hg (by simpa using a14) kk, plainBut T₁.bl (by simpa using a16) kk, hO', ?_, fun c hc => ⟨(T₁.decl c hc).1, let ⟨o, e, r⟩ := (T₁.decl c hc).2; ⟨o, km _ _ (T₁.decl c hc).1 e, r⟩⟩, ?_, ?_, T₁.nod⟩ (fun b o hb e => kk b o hb (hk b o e))
    · obtain ⟨vs, a, b⟩ := T₁.sl
      exact ⟨vs, plainBut a (by simpa using Ne.symm a18) kk, b⟩
    · intro q hq
      rcases List.mem_append.mp hq with hq | hq
      · exact ⟨(T₁.ords q hq).1, let ⟨vs, a, b⟩ := (T₁.ords q hq).2; ⟨vs, listBut a (T₁.ords q hq).1 km, b⟩⟩
      · rw [List.mem_singleton.mp hq]
        exact ⟨hoaD, us, listBut hpl.isList hoaD km, hI⟩
    · intro j hj
      obtain ⟨p, c, q, lin, a, b, d, e, f, g⟩ := (T₁.lins j hj).but (fun c hc => (T₁.decl c hc).1) km
      have hlt : j.toNat < os.length := by
        rcases Nat.lt_or_ge j.toNat os.length with h | h
        · exact h
        · rw [List.getElem?_eq_none h] at b; cases b
      exact ⟨p, c, q, lin, a, by rw [List.getElem?_append_left hlt]; exact b, d, e, f, g⟩
  refine wpAny_execs_cons (appendStmt (nameCell (c := X.L + 3) rfl T.c3 ⟨X.O, _, _, rfl, hO, IfExp_ (wpAny_isTrue_Compare1 (nameLoc F.ns hm (wpAny_pure ?_)))⟩))
  cases o with
  | none =>
    have hv : v = .none := hv
    subst hv
    refine wpAny_is_self rfl (wpAny_truthy_bool ?_)
    simp only [if_true]
    refine List_ (spliced_none (mkList fun oa h₁ hoa hk₁ hpl => ?_))
    exact fin _ oa [] ⟨_, _, rfl⟩ hk₁ hoa hpl .nil
  | some due =>
    obtain ⟨D, ds, rfl, hl, hI⟩ := hv
    refine is_ref_none (wpAny_truthy_bool ?_)
    simp only [Bool.false_eq_true, if_false]
    have hlen : (orderOf n (some due)).length = due.length + 1 := by simp [orderOf]
    rw [hlen] at hsz
    refine wpAny_BinOp (List_ (spliced_more (nameCell (c := X.L + 5) rfl T.c5 (spliced_none (mkList fun P h₁ hP hk₁ hpl₁ => ?_)))))
    refine nameLoc (s := { s with heap := h₁ }) (F.keptAll hk₁).ns hm ?_
    refine addL (s := { s with heap := h₁ }) hpl₁.isList (hl.at fun o e => hk₁ _ o e) (fun oa h₂ hoa hk₂ hpl₂ => ?_) (by rw [hI.length]; simp [sizeLine]; omega)
    refine fin { s with heap := h₂ } oa _ ⟨_, _, rfl⟩ (fun b o e => hk₂ b o (hk₁ b o e)) ?_ hpl₂ (.cons n tn hI)
    cases q : s.heap.get? oa with
    | none => rfl
    | some o => have := hk₁ _ _ q; rw [hoa] at this; cases this
end
end Mine

-- MTurn7
namespace Mine
open PySem.Calls PySem.Challenge
def st6 : Stmt := (lawTurn[6]?).getD default
def st6v : Expr := match st6 with | .Assign _ v _ => v | _ => default
def st6t : List Expr := match st6 with | .Assign t _ _ => t | _ => default
theorem sw6a (L fa : Addr) (cd : Value) : swapsWithSole st6t st6v 109 (lawEnv L fa cd) = pure false := by kernel_rfl
theorem sw6b (L fa : Addr) (cd : Value) : swappedStores st6t st6v (lawEnv L fa cd) = (pure (some [Str.ofString "given", Str.ofString "at"]) : Sem (Option (List Str))) := by kernel_rfl
theorem refAt_mem {bs : List Addr} {n : Int} (h : n.toNat < bs.length) : ∃ c ∈ bs, refAt bs n = .ref c := by
  refine ⟨bs[n.toNat], List.getElem_mem h, ?_⟩
  simp [refAt, List.getElem?_eq_getElem h]
def linesOf (os : List (Addr × List Int)) (sm : List Int) : List (List Int) := sm.reverse.map (fun n => (ordAt os n).2) ++ [sm.reverse]
theorem basesFor {X : Sx} {num : Option Value} {ow : Option Value} {bs : List Addr} {os : List (Addr × List Int)} {ss : List Int} {h : Heap} (T : TS X num ow bs os ss h) : ∀ {sm : List Int}, (∀ n ∈ sm, n ∈ ss) →
    ∃ bases : List Base, (bases.map fun b => Value.ref b.at_) = sm.map (refAt bs) ∧ BasesOk h bases ∧ bases.map Base.its = sm.map fun n => (ordAt os n).2.map (refAt bs)
  | [], _ => ⟨[], rfl, (fun _ hb => nomatch hb), rfl⟩
  | n :: sm, hs => by
    obtain ⟨bases, e1, e2, e3⟩ := basesFor T (sm := sm) fun k hk => hs k (.tail _ hk)
    obtain ⟨p, c, q, lin, a, b, d, e, f, g⟩ := T.lins n (hs n (.head _))
    have hq : ordAt os n = q := by simp [ordAt, b]
    refine ⟨⟨c, lin, q.2.map (refAt bs)⟩ :: bases, ?_, ?_, ?_⟩
    · rw [List.map_cons, List.map_cons, e1]
      simp [refAt, a]
    · intro b' hb'
      rcases List.mem_cons.mp hb' with rfl | hb'
      · refine ⟨d.field, f, ?_⟩
        intro v hv
        obtain ⟨k, hk, rfl⟩ := List.mem_map.mp hv
        obtain ⟨c', hc', e'⟩ := refAt_mem (g k hk).2
        exact ⟨c', e', (T.decl c' hc').2⟩
      · exact e2 b' hb'
    · rw [List.map_cons, List.map_cons, e3, hq]
section
variable {w : World} {A : Around} {E : Value → Shared → Prop} {s : Shared} {fa : Addr} {cd : Value} {h₀ : Heap} {m : Str → Option Value} {X : Sx} {num : Option Value} {bs : List Addr} {os : List (Addr × List Int)} {ss : List Int}
theorem turn6 {Q : Flow → Shared → Prop} {ow : Option Value} (SX : SxOk h₀ X) (F : Fr h₀ X.L s.heap m) (T : TS X num ow bs os ss s.heap) (hh : A.handled = none)
    (k : ∀ h' tk G t, Fr h₀ X.L h' (fun y => if y = "given" then some (.ref G) else if y = "at" then some (.int 0 t) else m y) → TS X num ow bs os ss h' → StaysBut [X.L] s.heap h' → s.heap.get? G = none → h'.IsList G (List.toArray []) →
      wpAny (model rw_pq0388_01.row.prog w) A (execs (lawTurn.drop 7) (lawEnv X.L fa cd)) Q E { s with heap := h', toks := tk }) :
    wpAny (model rw_pq0388_01.row.prog w) A (execs (lawTurn.drop 6) (lawEnv X.L fa cd)) Q E s := by
  refine wpAny_execs_cons ?_
  refine Assign_Tuple_swapped (names := ["given", "at"]) ?_ (sw6a _ _ _) (sw6b _ _ _)
  refine Tuple_ (spliced_more (List_ (spliced_none (mkList fun G h₁ hG hk₁ hpl₁ => ?_))))
  refine spliced_more (wpAny_Constant_int (spliced_none (mkTuple fun P h₂ hP hk₂ hpl₂ => ?_)))
  dsimp only at hk₂
  refine unpackItems_tuple (items := List.toArray [Value.ref G, Value.int 0 _]) hh hpl₂ fun h₃ e₃ => ?_
  have hk₃ := staysOfExt e₃
  dsimp only at hk₃ ⊢
  have k₃ : s.heap.StaysIn h₃ := fun b o e => hk₃ b o (hk₂ b o (hk₁ b o e))
  have F₃ := F.keptAll k₃
  have T₃ := T.keep SX k₃
  have hG₃ : h₃.IsList G (List.toArray []) := (hpl₁.isList.at fun o e => hk₂ _ o e).at fun o e => hk₃ _ o e
  refine assignInOrder_cons (bindName_ (wpAny_storeName_local (s := { s with heap := h₃, toks := _ }) rfl F₃.ns (fun h₄ hn₄ hs₄ => ?_) rfl))
  have hs₄ : Heap.SameBut X.L h₃ h₄ := hs₄
  have F₄ := F₃.set hn₄ hs₄
  refine assignInOrder_cons (bindName_ (wpAny_storeName_local (s := { s with heap := h₄, toks := _ }) rfl F₄.ns (fun h₅ hn₅ hs₅ => ?_) rfl))
  have hs₅ : Heap.SameBut X.L h₄ h₅ := hs₅
  have F₅ := F₄.set hn₅ hs₅
  refine assignInOrder_nil ?_
  have kk : StaysBut [X.L] h₃ h₅ := fun b o hb e => hs₅.extBut b o (fun z => hb (by simp [z])) (hs₄.extBut b o (fun z => hb (by simp [z])) e)
  exact k h₅ _ G _ F₅ (T₃.loc SX kk) (fun b o hb e => kk b o hb (k₃ b o e)) hG (listBut hG₃ (by simpa using isList_ne_ns hG₃ F₃.ns) kk)

/-- the try -/
theorem turn7 {Q : Flow → Shared → Prop} {x dx bl G₀ : Addr} {kk : Nat} {sm : List Int} {line at₀ : Value} (C₀ : Cx w h₀) (SX : SxOk h₀ X) (F : Fr h₀ X.L s.heap m) (T : TS X num (some (.ref x)) bs os ss s.heap) (hh : A.handled = none) (hdp : A.depth + 100 < recursionLimit) (hu : A.units + 600 < cLine)
    (hfr : A.frames = some [lawEnv X.L fa cd])
    (I : InstD s.heap x dx kk (fun z => if z = "bases" then some (.ref bl) else onlyLine line z)) (hlh : handedIn line = true) (hbl : s.heap.IsList bl (List.toArray (sm.map (refAt bs)))) (hs : ∀ n ∈ sm, n ∈ ss) (hlen : sm.length ≤ 3) (hsz : ∀ n ∈ sm, (ordAt os n).2.length ≤ 100000)
    (hg : m "given" = some (.ref G₀)) (hat : m "at" = some at₀) (hG₀ : s.heap.IsList G₀ (List.toArray []))
    (k : ∀ h' tk m' G items atv, Fr h₀ X.L h' m' → TS X num (some (.ref x)) bs os ss h' → StaysBut [X.L] s.heap h' → (∀ y : Str, y ≠ "given" → y ≠ "at" → y ≠ "fault" → m' y = m y) → m' "given" = some (.ref G) → m' "at" = some atv → (G = G₀ ∨ s.heap.get? G = none) → h'.IsList G (List.toArray items) →
      (match merged ((linesOf os sm).map (List.map (refAt bs))) with
        | none => items = [] ∧ atv = line
        | some found => items = .ref x :: found ∧ atv = at₀) →
      wpAny (model rw_pq0388_01.row.prog w) A (execs (lawTurn.drop 8) (lawEnv X.L fa cd)) Q E { s with heap := h', toks := tk }) :
    wpAny (model rw_pq0388_01.row.prog w) A (execs (lawTurn.drop 7) (lawEnv X.L fa cd)) Q E s := by
  have C := C₀.keeps F.keep
  obtain ⟨bases, hb1, hb2, hb3⟩ := basesFor T hs
  have hbl' : s.heap.IsList bl (List.toArray (bases.map fun b => Value.ref b.at_)) := by rw [hb1]; exact hbl
  have hblen : bases.length = sm.length := by
    have := congrArg List.length hb1
    simpa using this
  have hrows : rowsFor bases.reverse = (linesOf os sm).map (List.map (refAt bs)) := by
    unfold rowsFor linesOf
    rw [List.map_reverse, List.map_reverse, hb1, hb3]
    simp [List.map_reverse, Function.comp_def]
  have hsum : ((bases.map Base.its).map List.length).sum ≤ 500000 := by
    rw [hb3]
    have : ∀ l : List Int, (∀ n ∈ l, (ordAt os n).2.length ≤ 100000) → ((l.map fun n => (ordAt os n).2.map (refAt bs)).map List.length).sum ≤ l.length * 100000 := by
      intro l
      induction l with
      | nil => intro _; simp
      | cons a l ih =>
        intro h
        have := ih fun n hn => h n (.tail _ hn)
        have := h a (.head _)
        simp only [List.map_cons, List.sum_cons, List.length_cons, List.length_map]
        omega
    have := this sm hsz
    omega
  refine wpAny_execs_cons (wpAny_Try_except ?_)
  refine wpAny_execs_cons (wpAny_Assign_Name (Call_ (nameGlob C (v := .ref 80) rfl (callWith_K (K := KK w) C.X rfl (spliced_more (nameCell (c := X.L + 6) rfl T.c6 (spliced_none ⟨C.X, wpAny_call ?_⟩)))))))
  refine linearised_spec (c := x) (bs := bl) (line := line) (bases := bases) (outer := [lawEnv X.L fa cd]) C hh (by omega) (by omega) hfr (funFrames_push (h := h₀) (outer := []) trivial F rfl (fun z => nomatch z)) (I.field (if_pos rfl)) hbl' hb2 (I.field (by rfl)) hlh (by omega) hsum ?_ ?_
  · intro h₁ tk₁ D found hmg hk₁ hD hpl
    rw [hrows] at hmg
    have F₁ := F.keptAll hk₁
    have T₁ := T.keep SX hk₁
    refine wpAny_storeName_local (s := { s with heap := h₁, toks := tk₁ }) rfl F₁.ns (fun h₂ hn₂ hs₂ => ?_) rfl
    have hs₂ : Heap.SameBut X.L h₁ h₂ := hs₂
    refine wpAny_execs_nil (wpAny_execs_nil ?_)
    refine k h₂ _ _ D _ at₀ (F₁.set hn₂ hs₂) (T₁.loc SX (.same hs₂)) (fun b o hb e => hs₂.extBut b o (fun z => hb (by simp [z])) (hk₁ b o e)) (fun y h1 _ _ => if_neg h1) (if_pos rfl) hat (.inr hD) (hpl.isList.extBut hs₂.extBut (isList_ne_ns hpl.isList F₁.ns)) ?_
    rw [hmg]
    exact ⟨rfl, rfl⟩
  · intro h₁ tk₁ e hmg Ft
    rw [hrows] at hmg
    refine catchFault (h := s.heap) (outer := []) (s' := { s with heap := h₁, toks := tk₁ }) hfr rfl F (fun b hb => nomatch hb) C₀ Ft hlh fun h₂ tk₂ F₂ hk₂ attr => ?_
    have T₂ : TS X num (some (.ref x)) bs os ss h₂ := T.loc SX hk₂
    have hG₂ : h₂.IsList G₀ (List.toArray []) := listBut hG₀ (fun z => isList_ne_ns hG₀ F.ns (List.mem_singleton.mp z)) hk₂
    refine wpAny_execs_cons (wpAny_Assign_Name (Attribute_Name_ (nameLoc (s := { s with heap := h₂, toks := tk₂ }) (v := .ref e) F₂.ns (if_pos rfl) (attr _ _ _ _ _ (fun _ _ _ e => e) fun tk₃ => ?_))))
    refine wpAny_storeName_local (s := { s with heap := h₂, toks := tk₃ }) rfl F₂.ns (fun h₃ hn₃ hs₃ => ?_) rfl
    have hs₃ : Heap.SameBut X.L h₂ h₃ := hs₃
    have F₃ := F₂.set hn₃ hs₃
    refine wpAny_execs_nil ?_
    refine wpAny_nameGoes_keeps (s := { s with heap := h₃, toks := _ }) rfl F₃.ns rfl fun h₄ v₄ hn₄ hs₄ => ?_
    have hs₄ : Heap.SameBut X.L h₃ h₄ := hs₄
    have F₄ : Fr h₀ X.L h₄ _ := ⟨hn₄, fun b o e => hs₄.extBut b o (fun z => by
      have := ltS e
      rw [z] at this
      exact absurd this (Nat.not_lt.mpr F₃.above)) (F₃.keep b o e), F₃.above⟩
    have k34 : StaysBut [X.L] h₂ h₄ := fun b o hb e => hs₄.extBut b o (fun z => hb (by simp [z])) (hs₃.extBut b o (fun z => hb (by simp [z])) e)
    refine k h₄ _ _ G₀ [] line F₄ (T₂.loc SX k34) (fun b o hb e => k34 b o hb (hk₂ b o hb e)) (fun y h1 h2 h3 => ?_) hg ?_ (.inl rfl) (listBut hG₂ (fun z => isList_ne_ns hG₂ F₂.ns (List.mem_singleton.mp z)) k34) ?_
    · simp [h2, h3]
    · rfl
    · rw [hmg]; exact ⟨rfl, rfl⟩
end
end Mine

-- MTurn8
namespace Mine
open PySem.Calls PySem.Challenge
theorem nodupInj {bs : List Addr} (hn : bs.Nodup) {i j : Nat} (hi : i < bs.length) (hj : j < bs.length) (e : bs[i] = bs[j]) : i = j := by
  have := List.pairwise_iff_getElem.mp hn
  rcases Nat.lt_trichotomy i j with h | h | h
  · exact absurd e (this i j hi hj h)
  · exact h
  · exact absurd e.symm (this j i hj hi h)
theorem refAt_inj {bs : List Addr} (hn : bs.Nodup) {a b : Int} (ha : 0 ≤ a ∧ a.toNat < bs.length) (hb : 0 ≤ b ∧ b.toNat < bs.length) (e : refAt bs a = refAt bs b) : a = b := by
  simp only [refAt, List.getElem?_eq_getElem ha.2, List.getElem?_eq_getElem hb.2] at e
  injection e with e
  have := nodupInj hn _ _ e
  omega
theorem indsOf {h : Heap} {bs : List Addr} : ∀ {ks : List Int} {ys : List Value}, (∀ k ∈ ks, 0 ≤ k ∧ k.toNat < bs.length) → Paired (EltIs (fun v y => ∀ k : Int, 0 ≤ k → k.toNat < bs.length → v = refAt bs k → ∃ t, y = Value.int k t) (fun _ _ _ => False) h) (ks.map (refAt bs)) ys → IntsAre ys ks
  | [], _, _, P => by cases P; exact .nil
  | k :: ks, _, hk, P => by
    cases P with
    | cons hy P =>
      rcases hy with hy | ⟨_, _, _, _, hy⟩
      · obtain ⟨t, rfl⟩ := hy k (hk k (.head _)).1 (hk k (.head _)).2 rfl
        exact .cons k t (indsOf (fun k' h' => hk k' (.tail _ h')) P)
      · exact hy.elim
section
variable {w : World} {A : Around} {E : Value → Shared → Prop} {s : Shared}
theorem indexRefs {l : Addr} {bs : List Addr} {j : Nat} {Q : Value → Shared → Prop} (X : (KK w).In s.heap) (hu : A.units + 10 < cLine) (hl : s.heap.IsList l (List.toArray (bs.map Value.ref))) (hd : ∀ c ∈ bs, DeclAt s.heap c) (hn : bs.Nodup) (hj : j < bs.length) (hsz : bs.length ≤ 1000)
    (h : ∀ t tk, Q (.int (j : Int) t) { s with toks := tk }) : wpAny (model rw_pq0388_01.row.prog w) A (call (.builtin "list.index") [.ref l, .ref bs[j]]) Q E s := by
  obtain ⟨⟨cls, dd, data, sl⟩, ho, hc, n, hdd⟩ := id hl
  simp only at hc hdd
  subst hc hdd
  have hj' : j < (List.toArray (bs.map Value.ref)).size := by simpa using hj
  refine call_meets PySem.F.slot_list_index ⟨_, ho, rfl⟩ PySem.F.entry_list_index (PySem.F.args_list_index_2 _ _)
    (SeqAt.list_indexAt l _ n dd sl (.ref bs[j]) (fun y => decide (y = .ref bs[j])) j hj' (by omega) ?_ ?_) ⟨ho, fun y hy => ?_, h _ _⟩
  · simp
  · intro i hi hlt
    have hi' : i < bs.length := by simpa using hi
    simp only [List.getElem_toArray, List.getElem_map, decide_eq_false_iff_not]
    intro e
    injection e with e
    have := nodupInj hn _ _ e
    omega
  · obtain ⟨c, hc, rfl⟩ := List.mem_map.mp (by simpa using hy)
    have e : decide (Value.ref c = Value.ref bs[j]) = decide (c = bs[j]) := by simp
    show SeqAt.EqAt _ s (.ref c) (.ref bs[j]) (decide (Value.ref c = Value.ref bs[j]))
    rw [e]
    exact declEq X (by show A.units + 1 < cLine; omega) (hd c hc) (hd _ (List.getElem_mem hj))
end
section
variable {w : World} {A : Around} {E : Value → Shared → Prop} {s : Shared} {fa : Addr} {cd : Value} {h₀ : Heap} {m : Str → Option Value} {X : Sx} {ow : Option Value} {bs : List Addr} {os : List (Addr × List Int)} {ss : List Int}
def atOf (n : Int) : Option (List Int) → Int
  | none => 10 + n
  | some _ => 0
/-- if at != (10 + number if due is None else 0) or [built.index(one) for one in given] != orders[number]: return False -/
theorem turn8 {Q : Flow → Shared → Prop} {n : Int} {tn t : Tok} {v : Value} {o : Option (List Int)} {G oa : Addr} (C₀ : Cx w h₀) (SX : SxOk h₀ X) (F : Fr h₀ X.L s.heap m) (T : TS X (some (.int n tn)) ow bs os ss s.heap) (hh : A.handled = none) (hu : A.units + 600 < cLine)
    (hdue : m "due" = some v) (hv : DueIs s.heap v o) (hg : m "given" = some (.ref G)) (hG : s.heap.IsList G (List.toArray ((orderOf n o).map (refAt bs)))) (hat : m "at" = some (.int (atOf n o) t)) (hn : 0 ≤ n) (hos : os[n.toNat]? = some (oa, orderOf n o)) (hol : os.length ≤ 100) (hbl : bs.length ≤ 100)
    (hr : ∀ k ∈ orderOf n o, 0 ≤ k ∧ k.toNat < bs.length) (hlen : (orderOf n o).length ≤ 1000000)
    (k : ∀ h' tk, s.heap.StaysIn h' → Fr h₀ X.L h' m → TS X (some (.int n tn)) ow bs os ss h' → wpAny (model rw_pq0388_01.row.prog w) A (execs (lawTurn.drop 9) (lawEnv X.L fa cd)) Q E { s with heap := h', toks := tk }) :
    wpAny (model rw_pq0388_01.row.prog w) A (execs (lawTurn.drop 8) (lawEnv X.L fa cd)) Q E s := by
  have hnl : n.toNat < os.length := by
    rcases Nat.lt_or_ge n.toNat os.length with h | h
    · exact h
    · rw [List.getElem?_eq_none h] at hos; cases hos
  refine wpAny_execs_cons (wpAny_If (isTrue_or ?_))
  refine wpAny_isTrue_Compare1 (nameLoc F.ns hat (wpAny_mono (Q := fun v s' => ∃ u tk', v = Value.int (atOf n o) u ∧ s' = { s with toks := tk' }) ?_ (fun v' s' h' => ?_) fun _ _ e => e))
  · refine IfExp_ (wpAny_isTrue_Compare1 (nameLoc F.ns hdue (wpAny_pure ?_)))
    cases o with
    | none =>
      have hv : v = .none := hv
      subst hv
      refine wpAny_is_self rfl (wpAny_truthy_bool ?_)
      simp only [if_true]
      exact wpAny_BinOp (wpAny_Constant_int (nameCell (s := { s with toks := _ }) (c := X.L + 5) rfl T.c5 (PySem.P.add_int ⟨_, _, rfl, rfl⟩)))
    | some due =>
      obtain ⟨D, ds, rfl, _, _⟩ := hv
      refine is_ref_none (wpAny_truthy_bool ?_)
      simp only [Bool.false_eq_true, if_false]
      exact wpAny_Constant_int ⟨_, _, rfl, rfl⟩
  obtain ⟨u, tk', rfl, rfl⟩ := h'
  refine PySem.P.ne_int (wpAny_truthy_bool ?_)
  simp only [bne_self_eq_false, Bool.false_eq_true, if_false]
  -- [built.index(one) for one in given] != orders[number]
  refine isTrue_or (wpAny_isTrue_Compare1 ?_)
  refine compR (s := { s with toks := tk' }) (fun _ => true) (fun v y => ∀ k : Int, 0 ≤ k → k.toNat < bs.length → v = refAt bs k → ∃ t, y = Value.int k t) (fun _ _ _ => False) hh (cl := [("built", X.L + 2)]) rfl (by decide) rfl (by decide) rfl ?_
  refine nameLoc (s := { s with toks := tk' }) F.ns hg ⟨G, _, rfl, hG, by simp [sizeLine]; omega, ?_, ?_, ?_⟩
  · intro C' v s₃ m₃ E' hv F₃' hm₃
    exact wpAny_pure ⟨rfl, _, _, rfl, fun _ _ e => e⟩
  · intro C' v s₃ m₃ E' hv _ F₃' hm₃
    obtain ⟨j, hj, rfl⟩ := List.mem_map.mp hv
    have hj' := hr j hj
    have ej : refAt bs j = .ref bs[j.toNat] := by simp [refAt, List.getElem?_eq_getElem hj'.2]
    have up : ∀ b o, s.heap.get? b = some o → s₃.heap.get? b = some o := F₃'.keep
    have T₃ := T.keep SX up
    rw [ej] at hm₃
    refine MethodCall_ (nameCell (c := X.L + 2) rfl T₃.c2 (getMethod_list_of PySem.F.slot_list_index PySem.F.type_list_index T₃.bl.isList ?_ ?_))
    · obtain ⟨_, e⟩ := T₃.bl
      exact ⟨_, e, rfl⟩
    refine callWith_method1 (spliced_more (nameLoc (m := m₃) F₃'.ns hm₃ (spliced_none ?_)))
    refine indexRefs ((C₀.keeps F.keep).keeps up).X (by omega) T₃.bl.isList (fun c hc => (T₃.decl c hc).2) T₃.nod hj'.2 (by omega) fun t tk => ?_
    refine ⟨.inl fun k h0 hk e => ?_, keepsTok⟩
    have : k = j := refAt_inj T.nod ⟨h0, hk⟩ hj' e.symm
    subst this
    exact ⟨t, by congr 1; omega⟩
  intro D h₁ tk₁ ys hD hpl hP hlen₁ hk₁
  dsimp only at hD hk₁ hlen₁ ⊢
  have hft : ((orderOf n o).map (refAt bs)).filter (fun _ => true) = (orderOf n o).map (refAt bs) := by simp
  rw [hft] at hP
  have hI := indsOf hr hP
  have F₁ := F.keptAll hk₁
  have T₁ := T.keep SX hk₁
  obtain ⟨_, us, hus, hIu⟩ := T₁.ords _ (List.mem_of_getElem? hos)
  refine subI (nameCell (s := { s with heap := h₁, toks := tk₁ }) (c := X.L + 3) rfl T₁.c3 (nameCell (s := { s with heap := h₁, toks := tk₁ }) (c := X.L + 5) rfl T₁.c5 ⟨X.O, _, n, tn, .ref oa, rfl, rfl, T₁.ol.isList, hn, by omega, by simp [hos], ?_⟩))
  refine ke_ne_ints (s := { s with heap := h₁, toks := tk₁ }) (ns := orderOf n o) (ms := orderOf n o) hpl.isList hus hI hIu (by omega) (wpAny_truthy_bool ?_)
  simp only [decide_true, Bool.not_true, Bool.false_eq_true, if_false]
  refine isTrue_or_nil ?_
  simp only [Bool.false_eq_true, if_false]
  refine wpAny_execs_nil ?_
  exact k h₁ tk₁ hk₁ F₁ T₁
end
end Mine

-- MTurn9
namespace Mine
open PySem.Calls PySem.Challenge
section
variable {w : World} {A : Around} {E : Value → Shared → Prop} {s : Shared} {fa : Addr} {cd : Value} {h₀ : Heap} {m : Str → Option Value} {X : Sx} {bs : List Addr} {os : List (Addr × List Int)} {ss : List Int}
theorem TS.pushS {num : Option Value} {ow : Option Value} {h h' : Heap} {n : Int} {t : Tok} {vs : List Value} (T : TS X num ow bs os ss h) (SX : SxOk h₀ X) (k : Heap.SameBut X.S h h') (hl : h'.PlainList X.S (List.toArray (vs ++ [.int n t]))) (hi : IntsAre vs ss) (hL : LinAt X bs os h n) : TS X num ow bs os (ss ++ [n]) h' := by
  obtain ⟨a1, a2, a3, a4, a5, a6, a7, a8, a9, a10, a11, a12, a13, a14, a15, a16, a17, a18⟩ := muNe SX
  have kk : StaysBut [X.S] h h' := .same k
  have km : StaysBut (mx X) h h' := kk.mono fun b hb => by rw [List.mem_singleton.mp hb]; simp [mx, mu]
  have hg : X.gl ∉ [X.S] := fun z => SX.g (by rw [List.mem_singleton.mp z]; simp [mx, mu])
  refine ⟨cellBut T.c1 SX.c1 km, cellBut T.c2 SX.c2 km, cellBut T.c3 SX.c3 km, cellBut T.c4 SX.c4 km, cellBut T.c5 (by simpa using a8) kk, cellBut T.c6 (by simpa using a12) kk,
    wellBut T.well hg (by simpa using a15) kk, plainBut T.bl (by simpa using a17) kk, plainBut T.ol (by simpa using a18) kk, ⟨_, hl, hi.append (.cons n t .nil)⟩,
    fun c hc => ⟨(T.decl c hc).1, let ⟨o, e, r⟩ := (T.decl c hc).2; ⟨o, km _ _ (T.decl c hc).1 e, r⟩⟩, fun q hq => ⟨(T.ords q hq).1, let ⟨vs, a, b⟩ := (T.ords q hq).2; ⟨vs, listBut a (T.ords q hq).1 km, b⟩⟩, ?_, T.nod⟩
  intro j hj
  rcases List.mem_append.mp hj with hj | hj
  · exact (T.lins j hj).but (fun c hc => (T.decl c hc).1) km
  · rw [List.mem_singleton.mp hj]
    exact hL.but (fun c hc => (T.decl c hc).1) km
def soundOf (ss : List Int) (n : Int) : Option (List Int) → List Int
  | none => ss
  | some _ => ss ++ [n]
/-- if due is not None: own.linear = given; sound.append(number); if [..] != []: return False -/
theorem turn9 {Q : Flow → Shared → Prop} {n : Int} {tn : Tok} {v : Value} {o : Option (List Int)} {x G oa : Addr} {f : Str → Option Value} {kk : Nat} (C₀ : Cx w h₀) (SX : SxOk h₀ X) (F : Fr h₀ X.L s.heap m) (T : TS X (some (.int n tn)) (some (.ref x)) bs os ss s.heap) (hh : A.handled = none) (hdp : A.depth + 50 < recursionLimit) (hu : A.units + 600 < cLine)
    (hD : X.D ∉ mu X) (hD0 : h₀.get? X.D = none) (I : InstD s.heap x X.D kk f) (hkk : kk ≤ 200) (hGD : G ∉ mx X)
    (hdue : m "due" = some v) (hv : DueIs s.heap v o) (hg : m "given" = some (.ref G)) (hG : s.heap.IsList G (List.toArray ((orderOf n o).map (refAt bs)))) (hn : 0 ≤ n) (hos : os[n.toNat]? = some (oa, orderOf n o)) (hol : os.length ≤ 100) (hbl : bs.length ≤ 100) (hnb : bs[n.toNat]? = some x) (hnl : n.toNat + 1 = bs.length) (hssl : ss.length ≤ 100)
    (hr : ∀ k ∈ orderOf n o, 0 ≤ k ∧ k.toNat < bs.length)
    (k : ∀ h' tk, Fr h₀ X.L h' m → TS (setD X X.L) (some (.int n tn)) (some (.ref x)) bs os (soundOf ss n o) h' → StaysBut (mx X) s.heap h' → Q .next { s with heap := h', toks := tk }) :
    wpAny (model rw_pq0388_01.row.prog w) A (execs (lawTurn.drop 9) (lawEnv X.L fa cd)) Q E s := by
  refine wpAny_execs_cons (wpAny_If (wpAny_isTrue_Compare1 (nameLoc F.ns hdue (wpAny_pure ?_))))
  cases o with
  | none =>
    have hv : v = .none := hv
    subst hv
    refine isnot_none_none (wpAny_truthy_bool ?_)
    simp only [Bool.false_eq_true, if_false]
    exact wpAny_execs_nil (wpAny_execs_nil (k s.heap s.toks F T.clear fun b o _ e => e))
  | some due =>
  obtain ⟨Dd, ds, rfl, _, _⟩ := hv
  refine isnot_ref_none (wpAny_truthy_bool ?_)
  simp only [if_true]
  -- own.linear = given
  refine wpAny_execs_cons (plainObj_wpAny_Assign_Attribute (nameLoc F.ns hg (nameCell (c := X.L + 6) rfl T.c6 ?_)))
  refine setInst (C₀.keeps F.keep).X I (by omega) rfl fun h₁ tk₁ hs₁ I₁ => ?_
  have F₁ : Fr h₀ X.L h₁ m := F.change hs₁ (fun z => hD (by rw [z]; simp [mu])) hD0
  have T₁ := T.d SX hD (.same hs₁)
  have hG₁ : h₁.IsList G (List.toArray ((orderOf n (some due)).map (refAt bs))) := hG.extBut hs₁.extBut fun z => hGD (by rw [z]; exact .head _)
  -- sound.append(number)
  have T₁c := T₁.clear
  obtain ⟨vS, ⟨nS, hS⟩, hiS⟩ := T₁.sl
  have hlin : LinAt (setD X X.L) bs os h₁ n := by
    obtain ⟨es, nn, a, b, _, d⟩ := I₁.dict
    refine ⟨hn, x, _, G, hnb, hos, ⟨X.D, es, nn, ?_, I₁.inst, a, by rw [getL_eq b, d "linear" (.ref G) (if_pos rfl)]⟩, mxClear hGD, hG₁, hr⟩
    intro z
    rcases List.mem_cons.mp z with z | z
    · exact hD (by rw [z]; exact .head _)
    · exact hD z
  have hvS : vS.length ≤ 100 := by rw [hiS.length]; exact hssl
  refine wpAny_execs_cons (appendStmt (nameCell (s := { s with heap := h₁, toks := tk₁ }) (c := X.L + 4) rfl T₁.c4 ⟨X.S, _, _, rfl, hS, nameCell (s := { s with heap := h₁, toks := tk₁ }) (c := X.L + 5) rfl T₁.c5 ⟨_, _, hS, by simp [sizeLine]; omega, fun h₂ hs₂ ho₂ => ?_⟩⟩))
  dsimp only at hs₂ ⊢
  have hS₂ : h₂.PlainList X.S (List.toArray (vS ++ [.int n tn])) := by
    have e : (List.toArray vS).push (Value.int n tn) = List.toArray (vS ++ [.int n tn]) := by simp
    rw [e] at ho₂
    exact ⟨_, ho₂⟩
  have T₂ := T₁c.pushS (SX.clear) hs₂ hS₂ hiS hlin
  have F₂ : Fr h₀ X.L h₂ m := F₁.change hs₂ (Ne.symm (muNe SX).2.2.2.1) (SX.new _ (by simp [mu]))
  have k₂ : StaysBut (mx X) s.heap h₂ := fun b o hb e => hs₂.extBut b o (fun z => hb (by rw [z]; simp [mx, mu])) (hs₁.extBut b o (fun z => hb (by rw [z]; simp [mx])) e)
  have C₂ := C₀.keeps F₂.keep
  -- if [base for base in range(number + 1) if is_under(own, built[base]) != (base in orders[number])] != []
  obtain ⟨esI, nnI, aI, bI, _, dI⟩ := I₁.dict
  have hlin₂ : FieldAt h₂ x "linear" (.ref G) := by
    have hxm : x ∉ mx X := (T.decl x (List.mem_of_getElem? hnb)).1
    have hSm : X.S ∈ mx X := by simp [mx, mu]
    refine ⟨X.D, esI, nnI, hs₂.extBut _ _ (fun z => hxm (by rw [z]; exact hSm)) I₁.inst, hs₂.extBut _ _ (fun z => hD (by rw [z]; simp [mu])) aI, by rw [getL_eq bI, dI "linear" (.ref G) (if_pos rfl)]⟩
  have hG₂ : h₂.IsList G (List.toArray ((orderOf n (some due)).map (refAt bs))) := hG₁.extBut hs₂.extBut fun z => hGD (by rw [z]; simp [mx, mu])
  have hdecls : ∀ h', h₂.StaysIn h' → DeclsAre h' ((orderOf n (some due)).map (refAt bs)) := by
    intro h' hk v hv
    obtain ⟨j, hj, rfl⟩ := List.mem_map.mp hv
    obtain ⟨c, hc, e⟩ := refAt_mem (hr j hj).2
    exact ⟨c, e, (T₂.decl c hc).2.keeps hk⟩
  obtain ⟨_, us, hus, hIu⟩ := T₂.ords _ (List.mem_of_getElem? hos)
  refine wpAny_execs_cons (wpAny_If (wpAny_isTrue_Compare1 ?_))
  rw [eval_ListComp]
  refine compG0 (s := { s with heap := h₂, toks := tk₁ }) (use := none) (cl := [("own", X.L + 6), ("orders", X.L + 3), ("number", X.L + 5), ("built", X.L + 2)]) rfl (by decide) rfl (by decide) rfl ?_ (by intro _; rfl)
  refine evalRange C₂ (wpAny_BinOp (nameCell (s := { s with heap := h₂, toks := tk₁ }) (c := X.L + 5) rfl T₂.c5 (wpAny_Constant_int (PySem.P.add_int ⟨n.toNat + 1, _, by congr 1; push_cast; omega, fun rg h₃ tk₃ t₁ u₁ v₁ hk₃ hr₃ => ?_⟩))))
  dsimp only at hk₃
  refine wpAny_pyIter_range (s := { s with heap := h₃, toks := tk₃ }) hr₃ (small_nat (by omega)) ?_
  rw [size_nat]
  have old : ∀ b o, h₃.get? b = some o → (h₃.push { cls := .type "range_iterator", data := .fields #[rawInt 0, rawInt ((n.toNat + 1 : Nat) : Int), rawInt 1] }).get? b = some o := fun b o e => Heap.get?_push_of_some _ e
  have hIl : ∀ b o, h₃.get? b = some o → b ≠ h₃.objs.size := fun b o e => Nat.ne_of_lt (ltS e)
  refine ⟨h₃.objs.size, [h₃.objs.size], [h₃.objs.size], [], n.toNat + 1, _, _, (fun _ _ _ _ ys => ys = []), rfl, Walks.range hh _ 0 1 (n.toNat + 1), by simp [sizeLine]; omega, (by show IsRangeIter _ _ _ _ _; simpa using Heap.get?_push_size _ rfl), ?_, (fun b hb => nomatch hb), (fun b _ hb => nomatch hb), (fun _ _ _ _ => rfl), (fun _ _ _ _ _ _ _ _ h _ => h), ?_, ?_⟩
  · intro b hb
    rw [List.mem_singleton.mp hb]
    show h₃.objs.size < (h₃.push _).objs.size
    rw [Heap.size_push]; exact Nat.lt_succ_self _
  · intro C' D' i v s₅ m₅ ys E' hC hD' hi hv hlen hI hpl hSt hn₅ hm₅ hkk₅
    have k₅ : h₂.StaysIn s₅.heap := fun b o e => hkk₅ b o (by have := hIl b o (hk₃ b o e); simpa using this) (old b o (hk₃ b o e))
    obtain ⟨t, rfl⟩ := hv
    have C₅ := C₂.keeps k₅
    have T₅ := T₂.keep (SX.clear) k₅
    have hib : i < bs.length := by omega
    have hc : bs[i] ∈ bs := List.getElem_mem hib
    have e0 : (0 : Int) + (i : Int) * 1 = (i : Int) := by omega
    rw [e0] at hm₅
    refine wpAny_mono (Q := fun ok s₆ => ok = false ∧ KeepsBut [] s₅ s₆) ?_ (fun ok s₆ h₆ => ⟨h₆.2, by rw [h₆.1]; exact hI⟩) fun _ _ e => e
    refine wpAny_tests_one (wpAny_isTrue_Compare1 (Call_ (nameGlob C₅ (v := .ref 87) rfl (callWith_K (K := KK w) C₅.X rfl (spliced_more (nameCell (c := X.L + 6) rfl T₅.c6 (spliced_more ?_)))))))
    refine subI (nameCell (c := X.L + 2) rfl T₅.c2 (nameLoc (m := m₅) hn₅ hm₅ ⟨X.B, _, (i : Int), t, .ref bs[i], rfl, rfl, T₅.bl.isList, by omega, by omega, by simp [hib], ?_⟩))
    refine spliced_none ⟨C₅.X, wpAny_call ?_⟩
    refine isUnder_spec C₅ (by show A.depth < recursionLimit; omega) (by show A.units + 20 < cLine; omega) (hlin₂.keeps k₅) (hG₂.at fun o e => k₅ _ o e) (hdecls _ k₅) ((T₂.decl _ hc).2.keeps k₅) fun h₆ tk₆ hk₆ => ?_
    have k₆ : h₂.StaysIn h₆ := fun b o e => hk₆ b o (k₅ b o e)
    have T₆ := T₂.keep (SX.clear) k₆
    refine wpAny_Compare1 (nameLoc (s := { s₅ with heap := h₆, toks := tk₆ }) (m := m₅) (hn₅.at' fun o e => hk₆ _ o e) hm₅ ?_)
    refine subI (nameCell (s := { s₅ with heap := h₆, toks := tk₆ }) (c := X.L + 3) rfl T₆.c3 (nameCell (s := { s₅ with heap := h₆, toks := tk₆ }) (c := X.L + 5) rfl T₆.c5 ⟨X.O, _, n, tn, .ref oa, rfl, rfl, T₆.ol.isList, hn, by omega, by simp [hos], ?_⟩))
    refine inInts (s := { s₅ with heap := h₆, toks := tk₆ }) (hus.at fun o e => k₆ _ o e) hIu ?_
    refine PyProof.Rows.ne_bool (wpAny_truthy_bool ⟨?_, _, _, rfl, fun b o _ e => hk₆ b o e⟩)
    have ei : Value.ref bs[i] = refAt bs (i : Int) := by simp [refAt, List.getElem?_eq_getElem hib]
    have : decide (Value.ref bs[i] ∈ (orderOf n (some due)).map (refAt bs)) = decide ((i : Int) ∈ orderOf n (some due)) := by
      rw [decide_eq_decide, ei]
      constructor
      · intro h
        obtain ⟨j, hj, e⟩ := List.mem_map.mp h
        have := refAt_inj T.nod (hr j hj) ⟨by omega, by simpa using hib⟩ e
        rw [← this]; exact hj
      · exact fun h => List.mem_map_of_mem h
    rw [this]
    simp
  · intro C' D' h' tk' m' ys hC hD' hDC hlen hn' hpl hI hkk'
    subst hI
    refine ⟨m', hn', fun h'' hs'' => ?_⟩
    have hCn : ∀ b o, h₃.get? b = some o → b ≠ C' := fun b o e z => by
      have := ltS (old b o e)
      rw [z] at this; exact absurd this (Nat.not_lt.mpr hC)
    have k'' : h₂.StaysIn h'' := fun b o e => hs''.extBut b o (hCn b o (hk₃ b o e)) (hkk' b o (by have := hIl b o (hk₃ b o e); simpa using this) (old b o (hk₃ b o e)))
    refine List_ (spliced_none (mkList fun Y h₄ hY hk₄ hplY => ?_))
    dsimp only at hk₄ ⊢
    refine ke_ne_ints (ns := []) (ms := []) ((hpl.isList.extBut hs''.extBut hDC).at fun o e => hk₄ _ o e) hplY.isList .nil .nil (by omega) (wpAny_truthy_bool ?_)
    simp only [decide_true, Bool.not_true, Bool.false_eq_true, if_false]
    refine wpAny_execs_nil (wpAny_execs_nil (wpAny_execs_nil ?_))
    have k4 : h₂.StaysIn h₄ := fun b o e => hk₄ b o (k'' b o e)
    exact k h₄ _ (F₂.keptAll k4) (T₂.keep (SX.clear) k4) fun b o hb e => k4 b o (k₂ b o hb e)
end
end Mine

-- MPlain
namespace Mine
section
variable {α : Type} [DecidableEq α]
def offD (D : List α) : α → Bool := fun x => !decide (x ∈ D)
def rowsD (lines : List (List α)) (D : List α) : List (List α) := (lines.map fun l => l.filter (offD D)).filter fun r => !r.isEmpty
theorem find_leftOf (p : α → Bool) : ∀ (lines : List (List α)) (acc : List α), (lines.foldl leftStep acc).find? p = (acc ++ lines.flatten).find? p
  | [], acc => by simp
  | l :: lines, acc => by
    rw [List.foldl_cons, find_leftOf p lines, List.find?_append, List.flatten_cons, ← List.append_assoc, List.find?_append, List.find?_append (xs := acc)]
    congr 1
    unfold leftStep
    rw [List.find?_append, List.find?_filter]
    cases h : acc.find? p with
    | some x => simp
    | none =>
      simp only [Option.none_or]
      rw [List.find?_eq_none] at h
      congr 1
      funext x
      by_cases hx : x ∈ acc
      · have := h x hx
        simp [hx]; simpa using this
      · simp [hx]
theorem mem_leftOf : ∀ (lines : List (List α)) (acc : List α) (x : α), x ∈ lines.foldl leftStep acc ↔ x ∈ acc ∨ ∃ l ∈ lines, x ∈ l
  | [], acc, x => by simp
  | l :: lines, acc, x => by
    rw [List.foldl_cons, mem_leftOf lines]
    unfold leftStep
    simp only [List.mem_append, List.mem_filter, List.mem_cons]
    constructor
    · rintro ((h | h) | ⟨l', h1, h2⟩)
      · exact .inl h
      · exact .inr ⟨l, .inl rfl, h.1⟩
      · exact .inr ⟨l', .inr h1, h2⟩
    · rintro (h | ⟨l', (rfl | h1), h2⟩)
      · exact .inl (.inl h)
      · by_cases hx : x ∈ acc
        · exact .inl (.inl hx)
        · exact .inl (.inr ⟨h2, by simpa using hx⟩)
      · exact .inr ⟨l', h1, h2⟩
theorem flatMap_nonempty (f : List α → List α) (hf : f [] = []) : ∀ rows : List (List α), (rows.filter fun r => !r.isEmpty).flatMap f = rows.flatMap f
  | [] => rfl
  | r :: rs => by
    rw [List.filter_cons]
    cases r with
    | nil => simp [hf, flatMap_nonempty f hf rs]
    | cons x r => simp [flatMap_nonempty f hf rs]
theorem ahead_rows (lines : List (List α)) (D left : List α) (h : ∀ x, x ∈ left ↔ (∃ l ∈ lines, x ∈ l) ∧ x ∉ D) : aheadOf lines left = (rowsD lines D).flatMap fun r => r.drop 1 := by
  unfold rowsD
  rw [flatMap_nonempty (fun r => r.drop 1) rfl, List.flatMap_map]
  unfold aheadOf
  have e : ∀ l ∈ lines, (l.filter fun x => decide (x ∈ left)) = l.filter (offD D) := by
    intro l hl
    refine List.filter_congr fun x hx => ?_
    unfold offD
    have := h x
    by_cases hd : x ∈ D
    · have : ¬ x ∈ left := fun z => (this.mp z).2 hd
      simp [this, hd]
    · have : x ∈ left := this.mpr ⟨⟨l, hl, hx⟩, hd⟩
      simp [this, hd]
  have : ∀ ls : List (List α), (∀ l ∈ ls, l ∈ lines) → (ls.flatMap fun l => (l.filter fun x => decide (x ∈ left)).drop 1) = ls.flatMap fun l => (l.filter (offD D)).drop 1 := by
    intro ls
    induction ls with
    | nil => intro _; rfl
    | cons l ls ih =>
      intro hl
      rw [List.flatMap_cons, List.flatMap_cons, e l (hl l (.head _)), ih fun l' h' => hl l' (.tail _ h')]
  exact this lines fun _ h => h
theorem freeIn_mem (rows : List (List α)) (x : α) : freeIn rows x = !decide (x ∈ rows.flatMap fun r => r.drop 1) := by
  rw [Bool.eq_iff_iff]
  unfold freeIn
  rw [List.all_eq_true]
  simp only [Bool.not_eq_true', decide_eq_false_iff_not, List.mem_flatMap, not_exists, not_and]
theorem find_heads (p : α → Bool) : ∀ rows : List (List α), (∀ r ∈ rows, ∀ x ∈ r.drop 1, p x = false) → rows.flatten.find? p = (rows.filterMap List.head?).find? p
  | [], _ => rfl
  | [] :: rs, h => by
    have := find_heads p rs fun r hr => h r (.tail _ hr)
    simpa using this
  | (x :: r) :: rs, h => by
    have ih := find_heads p rs fun r hr => h r (.tail _ hr)
    have hr : r.find? p = none := by
      rw [List.find?_eq_none]
      intro y hy
      simp [h (x :: r) (.head _) y hy]
    have e : ((x :: r) :: rs).filterMap List.head? = x :: rs.filterMap List.head? := List.filterMap_cons_some (f := List.head?) rfl
    rw [List.flatten_cons, List.find?_append, e, List.find?_cons, List.find?_cons]
    cases p x with
    | true => simp
    | false => simp [hr, ih]
theorem flatten_rowsD (lines : List (List α)) (D : List α) : (rowsD lines D).flatten = lines.flatten.filter (offD D) := by
  unfold rowsD
  induction lines with
  | nil => rfl
  | cons l ls ih =>
    rw [List.map_cons, List.filter_cons, List.flatten_cons, List.filter_append, ← ih]
    cases h : (l.filter (offD D)).isEmpty with
    | true =>
      have : l.filter (offD D) = [] := List.isEmpty_iff.mp h
      simp [this]
    | false => simp
theorem free_eq (lines : List (List α)) (D left : List α) (hl : left = (leftOf lines).filter (offD D)) : freeHead (rowsD lines D) = (freeOf lines left).head? := by
  have hm : ∀ x, x ∈ left ↔ (∃ l ∈ lines, x ∈ l) ∧ x ∉ D := by
    intro x
    rw [hl, List.mem_filter]
    have := mem_leftOf lines [] x
    have e : leftOf lines = lines.foldl leftStep [] := rfl
    rw [e, this]
    simp [offD]
  have ha := ahead_rows lines D left hm
  unfold freeHead freeOf
  rw [← find_heads (freeIn (rowsD lines D)) _ (fun r hr x hx => by
    rw [freeIn_mem]
    have : x ∈ (rowsD lines D).flatMap fun r => r.drop 1 := List.mem_flatMap.mpr ⟨r, hr, hx⟩
    rw [decide_eq_true this]; rfl), flatten_rowsD, List.find?_filter, List.head?_filter, hl, List.find?_filter]
  have e : leftOf lines = lines.foldl leftStep [] := rfl
  rw [e, find_leftOf]
  rw [List.nil_append]
  congr 1
  funext x
  rw [freeIn_mem, ← ha, hl]
  rfl
theorem drop_head (x : α) (r : List α) (h : x ∉ r.drop 1) : (if r.head? = some x then r.drop 1 else r) = r.filter fun y => !decide (y = x) := by
  cases r with
  | nil => simp
  | cons y r =>
    have h : x ∉ r := h
    have hr : (r.filter fun y => !decide (y = x)) = r := by
      rw [List.filter_eq_self]
      intro z hz
      simp only [Bool.not_eq_true', decide_eq_false_iff_not]
      rintro rfl
      exact h hz
    by_cases e : y = x
    · subst e
      simp [hr]
    · have : ¬ (some y = some x) := fun z => e (Option.some.inj z)
      simp [e, hr]
theorem step_rowsD (lines : List (List α)) (D : List α) (x : α) (h : freeIn (rowsD lines D) x = true) : stepRows x (rowsD lines D) = rowsD lines (D ++ [x]) := by
  have h1 : ∀ r ∈ rowsD lines D, (if r.head? = some x then r.drop 1 else r) = r.filter fun y => !decide (y = x) := by
    intro r hr
    refine drop_head x r fun hx => ?_
    rw [freeIn_mem] at h
    have : x ∈ (rowsD lines D).flatMap fun r => r.drop 1 := List.mem_flatMap.mpr ⟨r, hr, hx⟩
    rw [decide_eq_true this] at h; cases h
  unfold stepRows
  rw [List.map_congr_left h1]
  unfold rowsD
  clear h1 h
  induction lines with
  | nil => rfl
  | cons l ls ih =>
    rw [List.map_cons, List.map_cons, List.filter_cons]
    have e : l.filter (offD (D ++ [x])) = (l.filter (offD D)).filter fun y => !decide (y = x) := by
      rw [List.filter_filter]
      refine List.filter_congr fun y _ => ?_
      unfold offD
      by_cases h1 : y ∈ D <;> by_cases h2 : y = x <;> simp [h1, h2]
    rw [e]
    cases h : (l.filter (offD D)).isEmpty with
    | true =>
      have : l.filter (offD D) = [] := List.isEmpty_iff.mp h
      rw [this]
      simpa using ih
    | false =>
      simp only [Bool.not_false, if_true, List.map_cons, List.filter_cons]
      rw [ih]
theorem loops_eq (lines : List (List α)) : ∀ (k k' : Nat) (D left : List α), left = (leftOf lines).filter (offD D) → left.length ≤ k' → ((rowsD lines D).map List.length).sum ≤ k → mergeLoop k (rowsD lines D) D = ordLoop lines k' left D := by
  intro k
  induction k with
  | zero =>
    intro k' D left hl hk' hk
    have hr : rowsD lines D = [] := by
      cases e : rowsD lines D with
      | nil => rfl
      | cons r rs =>
        have : r ∈ rowsD lines D := by rw [e]; exact .head _
        have h1 := (List.mem_filter.mp this).2
        rw [e] at hk
        cases r with
        | nil => simp at h1
        | cons _ _ => simp at hk
    have hleft : left = [] := by
      have := flatten_rowsD lines D
      rw [hr] at this
      rw [hl, List.filter_eq_nil_iff]
      intro x hx
      have e : leftOf lines = lines.foldl leftStep [] := rfl
      rw [e, mem_leftOf] at hx
      rcases hx with hx | ⟨l, hl', hx⟩
      · cases hx
      · have h2 : (lines.flatten.filter (offD D)) = [] := this.symm
        rw [List.filter_eq_nil_iff] at h2
        exact h2 x (List.mem_flatten.mpr ⟨l, hl', hx⟩)
    rw [hr, hleft]
    cases k' <;> simp [mergeLoop, ordLoop]
  | succ k ih =>
    intro k' D left hl hk' hk
    by_cases hz : left = []
    · have hr : rowsD lines D = [] := by
        unfold rowsD
        rw [List.filter_eq_nil_iff]
        intro r hr
        obtain ⟨l, hl', rfl⟩ := List.mem_map.mp hr
        have : l.filter (offD D) = [] := by
          rw [List.filter_eq_nil_iff]
          intro x hx
          rw [hz] at hl
          have hl := (List.filter_eq_nil_iff.mp hl.symm)
          refine hl x ?_
          have e : leftOf lines = lines.foldl leftStep [] := rfl
          rw [e, mem_leftOf]
          exact .inr ⟨l, hl', hx⟩
        simp [this]
      rw [hr, hz]
      cases k' <;> simp [mergeLoop, ordLoop]
    · have hr : rowsD lines D ≠ [] := by
        intro hr
        apply hz
        have := flatten_rowsD lines D
        rw [hr] at this
        have h2 : (lines.flatten.filter (offD D)) = [] := this.symm
        rw [List.filter_eq_nil_iff] at h2
        rw [hl, List.filter_eq_nil_iff]
        intro x hx
        have e : leftOf lines = lines.foldl leftStep [] := rfl
        rw [e, mem_leftOf] at hx
        rcases hx with hx | ⟨l, hl', hx⟩
        · cases hx
        · exact h2 x (List.mem_flatten.mpr ⟨l, hl', hx⟩)
      obtain ⟨k'', rfl⟩ : ∃ k'', k' = k'' + 1 := ⟨k' - 1, by
        have : left.length ≠ 0 := fun e => hz (List.length_eq_zero_iff.mp e)
        omega⟩
      have hfe := free_eq lines D left hl
      simp only [mergeLoop, ordLoop, hr, hz, if_false]
      cases hf : freeOf lines left with
      | nil =>
        rw [hf] at hfe
        rw [hfe]; rfl
      | cons x rest =>
        rw [hf] at hfe
        have hfe : freeHead (rowsD lines D) = some x := hfe
        rw [hfe]
        have hfree : freeIn (rowsD lines D) x = true := by
          have := List.find?_some hfe
          exact this
        have hlt := stepRows_lt hfe
        rw [step_rowsD lines D x hfree] at hlt
        show mergeLoop k (stepRows x (rowsD lines D)) (D ++ [x]) = ordLoop lines k'' (left.filter fun y => !decide (y = x)) (D ++ [x])
        rw [step_rowsD lines D x hfree]
        have hxl : x ∈ left := by
          have : x ∈ freeOf lines left := by rw [hf]; exact .head _
          exact (List.mem_filter.mp this).1
        have hlt2 : (left.filter fun y => !decide (y = x)).length < left.length := by
          refine Nat.lt_of_le_of_ne (List.length_filter_le _ _) fun e => ?_
          have := List.length_filter_eq_length_iff.mp e x hxl
          simp at this
        refine ih k'' (D ++ [x]) _ ?_ (by omega) (by omega)
        rw [hl, List.filter_filter]
        refine List.filter_congr fun y _ => ?_
        unfold offD
        by_cases h1 : y ∈ D <;> by_cases h2 : y = x <;> simp [h1, h2]
theorem merged_ordered (lines : List (List α)) : merged lines = ordered lines := by
  have hr : rowsD lines [] = lines.filter fun r => !r.isEmpty := by
    unfold rowsD
    congr 1
    have : ∀ l ∈ lines, l.filter (offD []) = id l := by
      intro l _
      rw [List.filter_eq_self.mpr fun x _ => by simp [offD]]; rfl
    rw [List.map_congr_left this, List.map_id]
  unfold merged ordered
  rw [← hr]
  refine loops_eq lines _ _ [] _ ?_ (Nat.le_refl _) (Nat.le_refl _)
  rw [List.filter_eq_self.mpr fun x _ => by simp [offD]]
end
end Mine

-- MPlain2
namespace Mine
section
variable {α β : Type} [DecidableEq α] [DecidableEq β] (f : α → β) (hf : ∀ a b, f a = f b → a = b)
include hf
theorem freeIn_map (rows : List (List α)) (x : α) : freeIn (rows.map (List.map f)) (f x) = freeIn rows x := by
  rw [Bool.eq_iff_iff]
  unfold freeIn
  rw [List.all_eq_true, List.all_eq_true]
  constructor
  · intro h r hr
    have := h (r.map f) (List.mem_map_of_mem hr)
    simp only [Bool.not_eq_true', decide_eq_false_iff_not, ← List.map_drop] at this ⊢
    exact fun hx => this (List.mem_map_of_mem hx)
  · intro h r hr
    obtain ⟨r', hr', rfl⟩ := List.mem_map.mp hr
    have := h r' hr'
    simp only [Bool.not_eq_true', decide_eq_false_iff_not, ← List.map_drop] at this ⊢
    intro hx
    obtain ⟨y, hy, e⟩ := List.mem_map.mp hx
    rw [hf y x e] at hy
    exact this hy
theorem freeHead_map (rows : List (List α)) : freeHead (rows.map (List.map f)) = (freeHead rows).map f := by
  unfold freeHead
  have e : (rows.map (List.map f)).filterMap List.head? = (rows.filterMap List.head?).map f := by
    induction rows with
    | nil => rfl
    | cons r rs ih =>
      cases r with
      | nil => exact ih
      | cons x r =>
        show f x :: (rs.map (List.map f)).filterMap List.head? = f x :: (rs.filterMap List.head?).map f
        rw [ih]
  rw [e, List.find?_map]
  congr 2
  funext x
  exact freeIn_map f hf rows x
theorem stepRows_map (rows : List (List α)) (x : α) : stepRows (f x) (rows.map (List.map f)) = (stepRows x rows).map (List.map f) := by
  unfold stepRows
  have e1 : ∀ r : List α, (if (r.map f).head? = some (f x) then (r.map f).drop 1 else r.map f) = (if r.head? = some x then r.drop 1 else r).map f := by
    intro r
    cases r with
    | nil => simp
    | cons y r =>
      by_cases h : y = x
      · subst h; simp
      · have : ¬ f y = f x := fun z => h (hf _ _ z)
        simp [h, this]
  induction rows with
  | nil => rfl
  | cons r rs ih =>
    simp only [List.map_cons, List.filter_cons, e1] at ih ⊢
    have e2 : ((if r.head? = some x then r.drop 1 else r).map f).isEmpty = (if r.head? = some x then r.drop 1 else r).isEmpty := by
      generalize (if r.head? = some x then r.drop 1 else r) = q
      cases q <;> rfl
    rw [e2, ih]
    generalize (if r.head? = some x then r.drop 1 else r) = q
    cases q with
    | nil => rfl
    | cons _ _ => rfl
theorem mergeLoop_map : ∀ (k : Nat) (rows : List (List α)) (found : List α), mergeLoop k (rows.map (List.map f)) (found.map f) = (mergeLoop k rows found).map (List.map f)
  | 0, rows, found => by
    simp only [mergeLoop, List.map_eq_nil_iff]
    split <;> rfl
  | k + 1, rows, found => by
    simp only [mergeLoop, List.map_eq_nil_iff]
    split
    · rfl
    · rw [freeHead_map f hf]
      cases h : freeHead rows with
      | none => rfl
      | some x =>
        simp only [Option.map_some]
        rw [stepRows_map f hf]
        have := mergeLoop_map k (stepRows x rows) (found ++ [x])
        rw [List.map_append] at this
        exact this
theorem merged_map (rows : List (List α)) : merged (rows.map (List.map f)) = (merged rows).map (List.map f) := by
  unfold merged
  have e : (rows.map (List.map f)).filter (fun r => !r.isEmpty) = (rows.filter fun r => !r.isEmpty).map (List.map f) := by
    rw [List.filter_map]
    congr 2
    funext r
    cases r <;> rfl
  have e2 : (((rows.filter fun r => !r.isEmpty).map (List.map f)).map List.length).sum = ((rows.filter fun r => !r.isEmpty).map List.length).sum := by
    rw [List.map_map]
    congr 2
    funext r
    simp
  rw [e, e2]
  exact mergeLoop_map f hf _ _ []
end
theorem mergeLoop_mem {α : Type} [DecidableEq α] : ∀ (k : Nat) (rows : List (List α)) (found r : List α), mergeLoop k rows found = some r → ∀ x ∈ r, x ∈ found ∨ ∃ l ∈ rows, x ∈ l
  | 0, rows, found, r, h, x, hx => by
    simp only [mergeLoop] at h
    split at h
    · cases h; exact .inl hx
    · cases h
  | k + 1, rows, found, r, h, x, hx => by
    simp only [mergeLoop] at h
    split at h
    · cases h; exact .inl hx
    · cases hf : freeHead rows with
      | none => rw [hf] at h; cases h
      | some y =>
        rw [hf] at h
        rcases mergeLoop_mem k _ _ r h x hx with h1 | ⟨l, hl, h1⟩
        · rcases List.mem_append.mp h1 with h1 | h1
          · exact .inl h1
          · rw [List.mem_singleton.mp h1]
            obtain ⟨q, hq, e⟩ := freeHead_mem hf
            exact .inr ⟨q, hq, List.mem_of_mem_head? (by rw [e]; rfl)⟩
        · unfold stepRows at hl
          obtain ⟨hl, _⟩ := List.mem_filter.mp hl
          obtain ⟨q, hq, rfl⟩ := List.mem_map.mp hl
          refine .inr ⟨q, hq, ?_⟩
          split at h1
          · exact List.mem_of_mem_drop h1
          · exact h1
theorem ordered_mem {α : Type} [DecidableEq α] {lines : List (List α)} {r : List α} (h : ordered lines = some r) : ∀ x ∈ r, ∃ l ∈ lines, x ∈ l := by
  rw [← merged_ordered] at h
  intro x hx
  rcases mergeLoop_mem _ _ _ _ h x hx with h1 | ⟨l, hl, h1⟩
  · cases h1
  · exact ⟨l, (List.mem_filter.mp hl).1, h1⟩
theorem ordered_len {α : Type} [DecidableEq α] {lines : List (List α)} {r : List α} (h : ordered lines = some r) : r.length ≤ (lines.map List.length).sum := by
  rw [← merged_ordered] at h
  exact merged_len h
def refTot (bs : List Addr) (k : Int) : Value := if 0 ≤ k ∧ k.toNat < bs.length then refAt bs k else .int k 0
theorem refTot_inj {bs : List Addr} (hn : bs.Nodup) : ∀ a b, refTot bs a = refTot bs b → a = b := by
  intro a b e
  unfold refTot at e
  by_cases ha : 0 ≤ a ∧ a.toNat < bs.length
  · rw [if_pos ha] at e
    obtain ⟨c, _, ec⟩ := refAt_mem ha.2
    by_cases hb : 0 ≤ b ∧ b.toNat < bs.length
    · rw [if_pos hb] at e
      exact refAt_inj hn ha hb e
    · rw [if_neg hb, ec] at e; cases e
  · rw [if_neg ha] at e
    by_cases hb : 0 ≤ b ∧ b.toNat < bs.length
    · obtain ⟨c, _, ec⟩ := refAt_mem hb.2
      rw [if_pos hb, ec] at e; cases e
    · rw [if_neg hb] at e
      injection e
theorem merged_refs {bs : List Addr} (hn : bs.Nodup) {lines : List (List Int)} (hv : ∀ l ∈ lines, ∀ k ∈ l, 0 ≤ k ∧ k.toNat < bs.length) : merged (lines.map (List.map (refAt bs))) = (ordered lines).map (List.map (refAt bs)) := by
  have e : ∀ l : List Int, (∀ k ∈ l, 0 ≤ k ∧ k.toNat < bs.length) → l.map (refAt bs) = l.map (refTot bs) := fun l h => List.map_congr_left fun k hk => by unfold refTot; rw [if_pos (h k hk)]
  have e1 : lines.map (List.map (refAt bs)) = lines.map (List.map (refTot bs)) := List.map_congr_left fun l hl => e l (hv l hl)
  rw [e1, merged_map (refTot bs) (refTot_inj hn), merged_ordered]
  cases h : ordered lines with
  | none => rfl
  | some r =>
    simp only [Option.map_some]
    rw [e r fun k hk => by
      obtain ⟨l, hl, hk'⟩ := ordered_mem h k hk
      exact hv l hl k hk']
end Mine

-- MTurn
namespace Mine
open PySem.Calls PySem.Challenge
structure PI (i : Nat) (bs : List Addr) (os : List (Addr × List Int)) (ss : List Int) : Prop where
  bl : bs.length = i
  ol : os.length = i
  rng : ∀ k q, os[k]? = some q → q.2.length ≤ 4 ^ (k + 1) ∧ ∀ e ∈ q.2, 0 ≤ e ∧ e.toNat ≤ k
  sr : ∀ n ∈ ss, 0 ≤ n ∧ n.toNat < i
  sl : ss.length ≤ i
theorem ordAt_get {os : List (Addr × List Int)} {n : Int} (h : n.toNat < os.length) : os[n.toNat]? = some (ordAt os n) := by
  simp [ordAt, List.getElem?_eq_getElem h]
theorem ordAt_append {os : List (Addr × List Int)} {q : Addr × List Int} {n : Int} (h : n.toNat < os.length) : ordAt (os ++ [q]) n = ordAt os n := by
  unfold ordAt
  rw [List.getElem?_append_left h]
theorem PI.lines {i : Nat} {bs : List Addr} {os : List (Addr × List Int)} {ss sm : List Int} (P : PI i bs os ss) (hs : ∀ n ∈ sm, n ∈ ss) : ∀ l ∈ linesOf os sm, ∀ e ∈ l, 0 ≤ e ∧ e.toNat < i := by
  intro l hl e he
  rcases List.mem_append.mp hl with hl | hl
  · obtain ⟨n, hn, rfl⟩ := List.mem_map.mp hl
    have h1 := P.sr n (hs n (List.mem_reverse.mp hn))
    have h2 := (P.rng n.toNat _ (ordAt_get (by rw [P.ol]; exact h1.2))).2 e he
    omega
  · rw [List.mem_singleton.mp hl] at he
    exact P.sr e (hs e (List.mem_reverse.mp he))
theorem PI.ord_len {i : Nat} {bs : List Addr} {os : List (Addr × List Int)} {ss sm : List Int} (P : PI i bs os ss) (hs : ∀ n ∈ sm, n ∈ ss) : ∀ n ∈ sm, (ordAt os n).2.length ≤ 4 ^ i := by
  intro n hn
  have h1 := P.sr n (hs n hn)
  refine Nat.le_trans (P.rng n.toNat _ (ordAt_get (by rw [P.ol]; exact h1.2))).1 (Nat.pow_le_pow_right (by decide) h1.2)
theorem PI.order_len {i : Nat} {bs : List Addr} {os : List (Addr × List Int)} {ss sm : List Int} (P : PI i bs os ss) (hs : ∀ n ∈ sm, n ∈ ss) (hlen : sm.length ≤ 3) : (orderOf (i : Int) (ordered (linesOf os sm))).length ≤ 4 ^ (i + 1) := by
  cases h : ordered (linesOf os sm) with
  | none => simp [orderOf]
  | some due =>
    have h1 := ordered_len h
    have h2 : ((linesOf os sm).map List.length).sum ≤ sm.length * 4 ^ i + sm.length := by
      unfold linesOf
      simp only [List.map_append, List.map_cons, List.map_nil, List.sum_append, List.sum_cons, List.sum_nil, List.length_reverse]
      have : ∀ l : List Int, (∀ n ∈ l, (ordAt os n).2.length ≤ 4 ^ i) → ((l.map fun n => (ordAt os n).2).map List.length).sum ≤ l.length * 4 ^ i := by
        intro l
        induction l with
        | nil => intro _; simp
        | cons a l ih =>
          intro h
          have e1 := ih fun n hn => h n (.tail _ hn)
          have e2 := h a (.head _)
          simp only [List.map_cons, List.sum_cons, List.length_cons, Nat.add_mul, Nat.one_mul]
          omega
      have := this sm.reverse fun n hn => P.ord_len hs n (List.mem_reverse.mp hn)
      rw [List.length_reverse] at this
      omega
    simp only [orderOf, List.length_cons]
    cases sm with
    | nil =>
      have : 1 ≤ 4 ^ (i + 1) := Nat.one_le_pow _ _ (by decide)
      simp at h2
      omega
    | cons n sm =>
      have h3 := (P.sr n (hs n (.head _))).2
      have h4 : 4 ^ 1 ≤ 4 ^ i := Nat.pow_le_pow_right (by decide) (by omega)
      have h5 : (n :: sm).length * 4 ^ i ≤ 3 * 4 ^ i := Nat.mul_le_mul_right _ hlen
      rw [Nat.pow_succ]
      omega
theorem PI.next {i : Nat} {bs : List Addr} {os : List (Addr × List Int)} {ss sm : List Int} {x oa : Addr} (P : PI i bs os ss) (hs : ∀ n ∈ sm, n ∈ ss) (hlen : sm.length ≤ 3) :
    PI (i + 1) (bs ++ [x]) (os ++ [(oa, orderOf (i : Int) (ordered (linesOf os sm)))]) (soundOf ss (i : Int) (ordered (linesOf os sm))) := by
  refine ⟨by simp [P.bl], by simp [P.ol], ?_, ?_, ?_⟩
  · intro k q hq
    by_cases hk : k < os.length
    · rw [List.getElem?_append_left hk] at hq
      exact P.rng k q hq
    · have : k = os.length := by
        rcases Nat.lt_or_ge k (os.length + 1) with h | h
        · omega
        · rw [List.getElem?_eq_none (by simp; omega)] at hq; cases hq
      subst this
      rw [List.getElem?_append_right (Nat.le_refl _), Nat.sub_self] at hq
      simp only [List.getElem?_cons_zero, Option.some.injEq] at hq
      subst hq
      rw [P.ol]
      refine ⟨P.order_len hs hlen, fun e he => ?_⟩
      cases h : ordered (linesOf os sm) with
      | none => rw [h] at he; cases he
      | some due =>
        rw [h] at he
        rcases List.mem_cons.mp he with rfl | he
        · omega
        · obtain ⟨l, hl, h'⟩ := ordered_mem h e he
          have := P.lines hs l hl e h'
          omega
  · intro n hn
    cases h : ordered (linesOf os sm) with
    | none =>
      rw [h] at hn
      have := P.sr n hn
      omega
    | some due =>
      rw [h] at hn
      rcases List.mem_append.mp hn with hn | hn
      · have := P.sr n hn
        omega
      · rw [List.mem_singleton.mp hn]; omega
  · have := P.sl
    cases ordered (linesOf os sm) <;> simp [soundOf] <;> omega
end Mine

-- MTurnA
namespace Mine
open PySem.Calls PySem.Challenge
def DueM (X : Sx) (h : Heap) (v : Value) : Option (List Int) → Prop
  | none => v = .none
  | some due => ∃ D ds, v = .ref D ∧ D ∉ mu X ∧ h.IsList D (List.toArray ds) ∧ IntsAre ds due
theorem DueM.is {X : Sx} {h : Heap} {v : Value} {o : Option (List Int)} (x : DueM X h v o) : DueIs h v o := by
  cases o with
  | none => exact x
  | some due => obtain ⟨D, ds, e, _, a, b⟩ := x; exact ⟨D, ds, e, a, b⟩
theorem DueM.but {X : Sx} {h h' : Heap} {v : Value} {o : Option (List Int)} {mv : List Addr} (x : DueM X h v o) (k : StaysBut mv h h') (hm : ∀ b ∈ mv, b ∈ mu X) : DueM X h' v o := by
  cases o with
  | none => exact x
  | some due =>
    obtain ⟨D, ds, e, n, a, b⟩ := x
    exact ⟨D, ds, e, n, listBut a (fun z => n (hm _ z)) k, b⟩
section
variable {w : World} {A : Around} {E : Value → Shared → Prop} {s : Shared} {fa : Addr} {cd : Value} {h₀ : Heap} {m : Str → Option Value} {X : Sx} {ow : Option Value} {bs : List Addr} {os : List (Addr × List Int)} {ss : List Int}
theorem inMu1 {b a : Addr} (ha : a ∈ mu X) (h : b ∈ [a]) : b ∈ mu X := by rw [List.mem_singleton.mp h]; exact ha
theorem turn {Q : Flow → Shared → Prop} {i : Nat} {tn : Tok} (C₀ : Cx w h₀) (SX : SxOk h₀ X) (F : Fr h₀ X.L s.heap m) (T : TS X (some (.int (i : Int) tn)) ow bs os ss s.heap) (P : PI i bs os ss) (hi7 : i ≤ 7) (hh : A.handled = none) (hdp : A.depth + 200 < recursionLimit) (hu : A.units + 1000 < cLine) (hfr : A.frames = some [lawEnv X.L fa cd])
    (k : ∀ h' tk m' x oa sm, (∀ n ∈ sm, n ∈ ss) → sm.length ≤ 3 → Fr h₀ X.L h' m' → TS (setD X X.L) (some (.int (i : Int) tn)) (some (.ref x)) (bs ++ [x]) (os ++ [(oa, orderOf (i : Int) (ordered (linesOf os sm)))]) (soundOf ss (i : Int) (ordered (linesOf os sm))) h' → StaysBut (mu X) s.heap h' → Q .next { s with heap := h', toks := tk }) :
    wpAny (model rw_pq0388_01.row.prog w) A (execs lawTurn (lawEnv X.L fa cd)) Q E s := by
  have hbl := P.bl
  have hol := P.ol
  have hsl := P.sl
  have h4 : 4 ^ i ≤ 4 ^ 7 := Nat.pow_le_pow_right (by decide) hi7
  have h4' : 4 ^ (i + 1) ≤ 4 ^ 8 := Nat.pow_le_pow_right (by decide) (by omega)
  have e7 : (4 : Nat) ^ 7 = 16384 := by decide
  have e8 : (4 : Nat) ^ 8 = 65536 := by decide
  have mW : X.W ∈ mu X := by simp [mu]
  have mL : X.L ∈ mu X := by simp [mu]
  have m6 : X.L + 6 ∈ mu X := by simp [mu]
  have mB : X.B ∈ mu X := by simp [mu]
  have mO : X.O ∈ mu X := by simp [mu]
  refine turn0 C₀ SX F T (by omega) hh (by omega) (by omega) fun h₁ tk₁ Z vs sm F₁ T₁ k₁ hZ hlZ hiZ hs hlen => ?_
  have hZm := T.fresh F hZ
  have hr : ∀ n ∈ sm, 0 ≤ n ∧ n.toNat < i := fun n hn => P.sr n (hs n hn)
  refine turn1 (s := { s with heap := h₁, toks := tk₁ }) C₀ SX F₁ T₁ hh (by omega) (by omega) (by omega) (by omega) (by omega) (if_pos rfl) hlZ hZm hiZ (fun n hn => by have := hr n hn; omega) hlen fun h₂ tk₂ x dx bl tl F₂ SX₂ T₂ hdxm hdxf k₂ hx hxb hdx0 I₂ hlb hblm => ?_
  dsimp only at hdxf k₂
  have hlZ₂ := listBut hlZ (fun z => hZm (inMu1 m6 z)) k₂
  have hDx : DeclAt h₂ x := ⟨_, I₂.inst, rfl⟩
  refine turn3 (s := { s with heap := h₂, toks := tk₂ }) (X := setD X dx) SX₂ F₂ T₂ hx hxb hDx (by omega) fun h₃ F₃ T₃ k₃ => ?_
  dsimp only at k₃
  have hlZ₃ := listBut hlZ₂ (fun z => hZm (inMu1 mB z)) k₃
  have hxm : x ∉ mu X := fun z => hx (.tail _ z)
  have I₃ := I₂.at (h' := h₃) (fun o e => k₃ _ o (fun z => hxm (inMu1 mB z)) e) (fun o e => k₃ _ o (fun z => hdxm (inMu1 mB z)) e)
  have hblm' : bl ∉ mu X := fun z => hblm (.tail _ z)
  have hlb₃ := listBut hlb (fun z => hblm' (inMu1 mB z)) k₃
  refine turn4 (s := { s with heap := h₃, toks := tk₂ }) (X := setD X dx) C₀ SX₂ F₃ T₃ hh (by omega) (by omega) (if_pos rfl) hlZ₃ hiZ (fun n hn => by have := hr n hn; omega) hlen (by omega) (fun n hn => Nat.le_trans (P.ord_len hs n hn) (by omega)) fun h₄ tk₄ v F₄ T₄ k₄ hv => ?_
  dsimp only at k₄ hv
  have hv₄ : DueM (setD X dx) h₄ v (ordered (linesOf os sm)) := by
    unfold linesOf
    cases ho : ordered (sm.reverse.map (fun n => (ordAt os n).2) ++ [sm.reverse]) with
    | none => rw [ho] at hv; exact hv
    | some due =>
      rw [ho] at hv
      obtain ⟨D, ds, e, hD, a, b⟩ := hv
      exact ⟨D, ds, e, T₃.fresh F₃ hD, a, b⟩
  clear hv
  have I₄ := I₃.at (h' := h₄) (fun o e => k₄ _ o (fun z => hxm (inMu1 mL z)) e) (fun o e => k₄ _ o (fun z => hdxm (inMu1 mL z)) e)
  have hlb₄ := listBut hlb₃ (fun z => hblm' (inMu1 mL z)) k₄
  have hlo := P.order_len hs hlen
  generalize hodef : ordered (linesOf os sm) = o at hv₄ hlo
  refine turn5 (s := { s with heap := h₄, toks := tk₄ }) (X := setD X dx) (o := o) SX₂ F₄ T₄ (if_pos rfl) hv₄.is (by omega) (by omega) (let ⟨_, _, e, _⟩ := I₄.dict; ⟨_, e⟩) fun h₅ tk₅ oa F₅ T₅ k₅ => ?_
  dsimp only at k₅
  have I₅ := I₄.at (h' := h₅) (fun o e => k₅ _ o (fun z => hxm (inMu1 mO z)) e) (fun o e => k₅ _ o (fun z => hdxm (inMu1 mO z)) e)
  have hlb₅ := listBut hlb₄ (fun z => hblm' (inMu1 mO z)) k₅
  have hv₅ := hv₄.but k₅ (fun b hb => inMu1 mO hb)
  refine turn6 (s := { s with heap := h₅, toks := tk₅ }) (X := setD X dx) SX₂ F₅ T₅ hh fun h₆ tk₆ G₀ t₀ F₆ T₆ k₆ hG₀ hlG₀ => ?_
  dsimp only at k₆ hG₀
  have I₆ := I₅.at (h' := h₆) (fun o e => k₆ _ o (fun z => hxm (inMu1 mL z)) e) (fun o e => k₆ _ o (fun z => hdxm (inMu1 mL z)) e)
  have hlb₆ := listBut hlb₅ (fun z => hblm' (inMu1 mL z)) k₆
  have hv₆ := hv₅.but k₆ (fun b hb => inMu1 mL hb)
  have hlines : linesOf (os ++ [(oa, orderOf (i : Int) o)]) sm = linesOf os sm := by
    unfold linesOf
    congr 1
    exact List.map_congr_left fun n hn => by rw [ordAt_append (by have := hr n (List.mem_reverse.mp hn); omega)]
  have hbs : sm.map (refAt (bs ++ [x])) = sm.map (refAt bs) := List.map_congr_left fun n hn => refAt_append (by have := hr n hn; omega)
  rw [← hbs] at hlb₆
  refine turn7 (s := { s with heap := h₆, toks := tk₆ }) (X := setD X dx) C₀ SX₂ F₆ T₆ hh (by omega) (by omega) hfr I₆ rfl hlb₆ hs hlen (fun n hn => by
    rw [ordAt_append (by have := hr n hn; omega)]
    exact Nat.le_trans (P.ord_len hs n hn) (by omega)) (if_pos rfl) rfl hlG₀ fun h₇ tk₇ m₇ G items atv F₇ T₇ k₇ hm₇ hg₇ hat₇ hGf hlG hmg => ?_
  dsimp only at k₇ hGf
  rw [hlines, merged_refs T₆.nod (fun l hl e he => by
    have := P.lines hs l hl e he
    simp only [List.length_append, List.length_singleton]
    omega), hodef] at hmg
  have I₇ := I₆.at (h' := h₇) (fun o e => k₇ _ o (fun z => hxm (inMu1 mL z)) e) (fun o e => k₇ _ o (fun z => hdxm (inMu1 mL z)) e)
  have hv₇ := hv₆.but k₇ (fun b hb => inMu1 mL hb)
  have hxi : (bs ++ [x])[((i : Int)).toNat]? = some x := by simp [hbl]
  have hoi : (os ++ [(oa, orderOf (i : Int) o)])[((i : Int)).toNat]? = some (oa, orderOf (i : Int) o) := by simp [hol]
  have hGm : G ∉ mx (setD X dx) := by
    have key : ∀ {hp : Heap} {mm : Str → Option Value} {ww : Option Value} {b' : List Addr} {o' : List (Addr × List Int)} {s' : List Int} {nn : Option Value} {kk : Nat} {ff : Str → Option Value}, TS (setD X dx) nn ww b' o' s' hp → Fr h₀ X.L hp mm → InstD hp x dx kk ff → hp.get? G = none → G ∉ mx (setD X dx) := by
      intro hp mm ww b' o' s' nn kk ff T' F' I' e z
      rcases List.mem_cons.mp z with z | z
      · obtain ⟨_, _, e', _⟩ := I'.dict
        rw [z] at e
        exact absurd (e.symm.trans e') (fun z => nomatch z)
      · exact T'.fresh F' e z
    rcases hGf with rfl | hGf
    · exact key T₅ F₅ I₅ hG₀
    · exact key T₆ F₆ I₆ hGf
  have hitems : items = (orderOf (i : Int) o).map (refAt (bs ++ [x])) ∧ ∃ t, atv = .int (atOf (i : Int) o) t := by
    cases o with
    | none =>
      obtain ⟨rfl, rfl⟩ := hmg
      exact ⟨rfl, _, rfl⟩
    | some due =>
      obtain ⟨rfl, rfl⟩ := hmg
      refine ⟨?_, _, rfl⟩
      simp only [orderOf, List.map_cons]
      congr 1
      simp [refAt, hbl]
  obtain ⟨rfl, t₇, rfl⟩ := hitems
  have hdue₇ : m₇ "due" = some v := (hm₇ "due" (by decide) (by decide) (by decide)).trans rfl
  have hrng : ∀ e ∈ orderOf (i : Int) o, 0 ≤ e ∧ e.toNat < (bs ++ [x]).length := by
    intro e he
    have := ((P.next (x := x) (oa := oa) hs hlen).rng i (oa, orderOf (i : Int) o) (by rw [hodef]; simpa using hoi)).2 e he
    simp only [List.length_append, List.length_singleton]
    omega
  refine turn8 (s := { s with heap := h₇, toks := tk₇ }) (X := setD X dx) (o := o) C₀ SX₂ F₇ T₇ hh (by omega) hdue₇ hv₇.is hg₇ hlG hat₇ (by omega) hoi (by simp; omega) (by simp; omega) hrng (by omega) fun h₈ tk₈ k₈ F₈ T₈ => ?_
  dsimp only at k₈
  have I₈ := I₇.at (h' := h₈) (fun o e => k₈ _ o e) (fun o e => k₈ _ o e)
  have hv₈ := hv₇.but (mv := []) (.of k₈) (fun b hb => nomatch hb)
  refine turn9 (s := { s with heap := h₈, toks := tk₈ }) (X := setD X dx) (o := o) C₀ SX₂ F₈ T₈ hh (by omega) (by omega) hdxm hdx0 I₈ (by omega) hGm hdue₇ hv₈.is hg₇ (hlG.at fun o e => k₈ _ o e) (by omega) hoi (by simp; omega) (by simp; omega) hxi (by simp; omega) (by omega) hrng fun h₉ tk₉ F₉ T₉ k₉ => ?_
  dsimp only at k₉
  refine k h₉ tk₉ m₇ x oa sm hs hlen F₉ (by rw [hodef]; exact T₉) ?_
  intro b ob hb e
  have hne : ∀ a, a ∈ mu X → b ∉ [a] := fun a ha z => hb (inMu1 ha z)
  have e1 := k₁ b ob (fun z => hb (by
    rcases List.mem_cons.mp z with z | z
    · rw [z]; exact mL
    · exact inMu1 mW z)) e
  have hbd : b ≠ dx := by
    rintro rfl
    rw [hdxf] at e1; cases e1
  refine k₉ b ob (fun z => ?_) (k₈ b ob (k₇ b ob (hne _ mL) (k₆ b ob (hne _ mL) (k₅ b ob (hne _ mO) (k₄ b ob (hne _ mL) (k₃ b ob (hne _ mB) (k₂ b ob (hne _ m6) e1)))))))
  rcases List.mem_cons.mp z with z | z
  · exact hbd z
  · exact hb z
end
end Mine

-- MBody
namespace Mine
open PySem.Calls PySem.Challenge
/-- what is no range iterator stays -/
def KeepNI (h h' : Heap) : Prop := ∀ a o, h.get? a = some o → (o.cls ≠ .type "range_iterator" ∨ ∀ vs, o.data ≠ .fields vs) → h'.get? a = some o
section
variable {h h' : Heap}
theorem niCell {c : Addr} {v : Option Value} (k : KeepNI h h') (x : h.IsCell c v) : h'.IsCell c v := let ⟨o, e, d⟩ := x; ⟨o, k c o e (.inr fun vs z => by rw [d] at z; cases z), d⟩
theorem niList {a : Addr} {vs : Array Value} (k : KeepNI h h') (x : h.IsList a vs) : h'.IsList a vs := let ⟨o, e, c, n, d⟩ := x; ⟨o, k a o e (.inr fun vs z => by rw [d] at z; cases z), c, n, d⟩
theorem niPlain {a : Addr} {vs : Array Value} (k : KeepNI h h') (x : h.PlainList a vs) : h'.PlainList a vs := let ⟨n, e⟩ := x; ⟨n, k a _ e (.inr fun vs z => nomatch z)⟩
theorem niDecl {c : Addr} (k : KeepNI h h') (x : DeclAt h c) : DeclAt h' c := let ⟨o, e, d⟩ := x; ⟨o, k c o e (.inl fun z => by rw [d] at z; cases z), d⟩
theorem niTS {X : Sx} {num ow : Option Value} {bs : List Addr} {os : List (Addr × List Int)} {ss : List Int} (k : KeepNI h h') (T : TS X num ow bs os ss h) : TS X num ow bs os ss h' := by
  refine ⟨niCell k T.c1, niCell k T.c2, niCell k T.c3, niCell k T.c4, niCell k T.c5, niCell k T.c6, ?_, niPlain k T.bl, niPlain k T.ol, let ⟨vs, a, b⟩ := T.sl; ⟨vs, niPlain k a, b⟩, fun c hc => ⟨(T.decl c hc).1, niDecl k (T.decl c hc).2⟩,
    fun q hq => ⟨(T.ords q hq).1, let ⟨vs, a, b⟩ := (T.ords q hq).2; ⟨vs, niList k a, b⟩⟩, ?_, T.nod⟩
  · obtain ⟨i, t, st, u, vs, ns, a, b, r⟩ := T.well
    exact ⟨i, t, st, u, vs, ns, niList k a, niList k b, r⟩
  · intro n hn
    obtain ⟨p, c, q, lin, a, b, ⟨dx, es, nn, d1, d2, d3, d4⟩, e, f, g⟩ := T.lins n hn
    exact ⟨p, c, q, lin, a, b, ⟨dx, es, nn, d1, k _ _ d2 (.inr fun vs z => nomatch z), k _ _ d3 (.inr fun vs z => nomatch z), d4⟩, e, niList k f, g⟩
end
section
variable {w : World} {A : Around} {s : Shared} {fa : Addr} {cd : Value} {h₀ : Heap} {m : Str → Option Value} {X : Sx}
/-- the loop, and what stands behind it -/
theorem loop {num ow : Option Value} {Q : Flow → Shared → Prop} (hXD : X.D = X.L) (C₀ : Cx w h₀) (SX : SxOk h₀ X) (F : Fr h₀ X.L s.heap m) (T : TS X num ow [] [] [] s.heap) (hh : A.handled = none) (hdp : A.depth + 200 < recursionLimit) (hu : A.units + 1000 < cLine) (hfr : A.frames = some [lawEnv X.L fa cd])
    (k : ∀ h' tk m', Fr h₀ X.L h' m' → Q (.ret (.bool true)) { s with heap := h', toks := tk }) :
    wpAny (model rw_pq0388_01.row.prog w) A (execs (lawBody.drop 2) (lawEnv X.L fa cd)) Q (fun _ _ => False) s := by
  refine wpAny_execs_cons (forG ?_)
  refine evalRange (C₀.keeps F.keep) (wpAny_BinOp (wpAny_Constant_int (evalDraw (s := { s with toks := _ }) (C₀.keeps F.keep) T (by omega) rfl (wpAny_Constant_int ⟨6, _, rfl, by decide, fun _ _ e => e, fun h₁ tk₁ r u hb₁ hw₁ h0 hlt => ?_⟩))))
  refine PySem.P.add_int ?_
  obtain ⟨n, rfl⟩ : ∃ n : Nat, r = (n : Int) := ⟨r.toNat, by omega⟩
  refine ⟨2 + n, _, by congr 1, fun rg h₂ tk₂ t₁ u₁ v₁ hk₂ hr₂ => ?_⟩
  dsimp only at hb₁ hk₂
  have hWX : X.L ∉ [X.W] := by simpa using (muNe SX).1
  have F₂ : Fr h₀ X.L h₂ m := (FrBut F hb₁ hWX fun b hb => SX.new b (by rw [List.mem_singleton.mp hb]; simp [mu])).keptAll hk₂
  have T₂ : TS X num ow [] [] [] h₂ := (T.w SX hb₁ hw₁).keep SX hk₂
  refine wpAny_pyIter_range (s := { s with heap := h₂, toks := tk₂ }) hr₂ (small_nat (by omega)) ?_
  rw [size_nat]
  have old : h₂.StaysIn (h₂.push { cls := .type "range_iterator", data := .fields #[rawInt 0, rawInt ((2 + n : Nat) : Int), rawInt 1] }) := fun b o e => Heap.get?_push_of_some _ e
  have hIn : h₂.get? h₂.objs.size = none := none_of_le (Nat.le_refl _)
  have hIm : h₂.objs.size ∉ mu X := T₂.fresh F₂ hIn
  have hI0 : h₀.get? h₂.objs.size = none := by
    cases q : h₀.get? h₂.objs.size with
    | none => rfl
    | some o => have := F₂.keep _ _ q; rw [hIn] at this; cases this
  refine ⟨h₂.objs.size, [h₂.objs.size], [h₂.objs.size], mu X, 2 + n, _, _, (fun i h => ∃ m num ow bs os ss, Fr h₀ X.L h m ∧ TS X num ow bs os ss h ∧ PI i bs os ss), rfl, Walks.range hh _ 0 1 (2 + n), (by show IsRangeIter _ _ _ _ _; simpa using Heap.get?_push_size _ rfl), ?_, ?_, ?_, ?_, ?_⟩
  · exact ⟨m, num, ow, [], [], [], F₂.keptAll old, T₂.keep SX old, ⟨rfl, rfl, (fun k q e => by simp at e), (fun _ h => nomatch h), Nat.le_refl _⟩⟩
  · intro b hb
    rw [List.mem_singleton.mp hb]; exact hIm
  · rintro i h h' ⟨m', num', ow', bs, os, ss, F', T', P'⟩ hSt hk
    have hSt : IsRangeIter h h₂.objs.size _ _ _ := hSt
    have hni : KeepNI h h' := by
      intro a o e hor
      refine hk a o (fun z => ?_) e
      rw [List.mem_singleton.mp z, hSt] at e
      cases e
      rcases hor with h | h
      · exact h rfl
      · exact h _ rfl
    refine ⟨m', num', ow', bs, os, ss, ⟨?_, fun b o e => hk b o (fun z => by rw [List.mem_singleton.mp z, hI0] at e; cases e) (F'.keep b o e), F'.above⟩, niTS hni T', P'⟩
    exact F'.ns.at' fun o e => hk _ o (fun z => hIm (by rw [← List.mem_singleton.mp z]; simp [mu])) e
  · rintro i v s₃ hi ⟨t, rfl⟩ ⟨m', num', ow', bs, os, ss, F', T', P'⟩ ⟨h₃, tk₃, rfl⟩
    dsimp only at F' T'
    have e0 : (0 : Int) + (i : Int) * 1 = (i : Int) := by omega
    rw [e0]
    refine wpAny_assign_Name (wpAny_storeName_cell (c := X.L + 5) rfl rfl rfl T'.c5 fun h₄ hv₄ hs₄ => ?_)
    dsimp only at hs₄
    have m5 : X.L + 5 ∈ mu X := by simp [mu]
    have T₄ := T'.n SX (.same hs₄) hv₄
    have F₄ : Fr h₀ X.L h₄ m' := F'.change hs₄ (fun z => absurd z (addNe (b := 0) (by decide))) (SX.new _ m5)
    have hX : setD X X.L = X := by
      obtain ⟨L, W, B, O, S, gl, D⟩ := X
      simp only [Mine.setD] at hXD ⊢
      simp [hXD]
    refine turn (s := { s with heap := h₄, toks := tk₃ }) (i := i) C₀ SX F₄ T₄ P' (by omega) hh hdp hu hfr fun h₅ tk₅ m₅ x oa sm hs hlen F₅ T₅ k₅ => ?_
    rw [hX] at T₅
    refine ⟨h₅, tk₅, rfl, fun b o hb e => k₅ b o hb (hs₄.extBut b o (fun z => hb (by rw [z]; exact m5)) e), m₅, _, _, _, _, _, F₅, T₅, P'.next hs hlen⟩
  · rintro h tk ⟨m', num', ow', bs, os, ss, F', _, _⟩
    exact wpAny_execs_cons (wpAny_Return_some (wpAny_pure (k h tk m' F')))
end
end Mine

-- MBody2
namespace Mine
open PySem.Calls PySem.Challenge
theorem cellSome {h : Heap} {c : Addr} {v : Option Value} (x : h.IsCell c v) : ∃ o, h.get? c = some o := let ⟨o, e, _⟩ := x; ⟨o, e⟩
theorem plainSome {h : Heap} {c : Addr} {v : Array Value} (x : h.PlainList c v) : ∃ o, h.get? c = some o := let ⟨_, e⟩ := x; ⟨_, e⟩
theorem someKeep {h h' : Heap} {c : Addr} (x : ∃ o, h.get? c = some o) (k : h.StaysIn h') : ∃ o, h'.get? c = some o := let ⟨o, e⟩ := x; ⟨o, k _ _ e⟩
theorem someBut {h h' : Heap} {c a : Addr} (x : ∃ o, h.get? c = some o) (k : Heap.SameBut a h h') (ha : ∃ o, h'.get? a = some o) : ∃ o, h'.get? c = some o := by
  by_cases e : c = a
  · subst e; exact ha
  · obtain ⟨o, q⟩ := x; exact ⟨o, (k.2 c e).trans q⟩
section
variable {w : World} {A : Around} {s : Shared} {fa : Addr} {cd : Value} {h₀ : Heap} {m : Str → Option Value} {L : Addr}
theorem law_body {Q : Flow → Shared → Prop} {a : Addr} {vs : List Value} {ns : List Int} (C₀ : Cx w h₀) (F : Fr h₀ L s.heap m) (hm : m "script" = some (.ref a)) (hl : h₀.IsList a (List.toArray vs)) (hi : IntsAre vs ns) (hlen : vs.length ≤ 63)
    (c1 : s.heap.IsCell (L + 1) none) (c2 : s.heap.IsCell (L + 2) none) (c3 : s.heap.IsCell (L + 3) none) (c4 : s.heap.IsCell (L + 4) none) (c5 : s.heap.IsCell (L + 5) none) (c6 : s.heap.IsCell (L + 6) none)
    (hh : A.handled = none) (hdp : A.depth + 200 < recursionLimit) (hu : A.units + 1000 < cLine) (hfr : A.frames = some [lawEnv L fa cd])
    (k : ∀ h' tk m', Fr h₀ L h' m' → Q (.ret (.bool true)) { s with heap := h', toks := tk }) :
    wpAny (model rw_pq0388_01.row.prog w) A (execs lawBody (lawEnv L fa cd)) Q (fun _ _ => False) s := by
  have C := C₀.keeps F.keep
  have nL : ∀ j : Nat, h₀.get? (L + j) = none := fun j => none_of_le (Nat.le_trans F.above (Nat.le_add_right _ _))
  refine wpAny_execs_cons (wpAny_Assign_Name (Call_ (nameGlob C (v := .ref 113) rfl (callWith_K (K := KK w) C.X rfl (spliced_more (nameLoc F.ns hm (spliced_none ⟨C.X, wpAny_call ?_⟩)))))))
  refine well_spec C hh (by omega) (F.lst hl) hi hlen fun h₁ tk₁ gl W hk₁ hgl hW hne hwell => ?_
  dsimp only
  have F₁ := F.keptAll hk₁
  have c1₁ := cellKeeps c1 hk₁
  refine wpAny_storeName_cell (s := { s with heap := h₁, toks := tk₁ }) (c := L + 1) rfl rfl rfl c1₁ fun h₂ hv₂ hs₂ => ?_
  dsimp only at hs₂
  have neW : ∀ c, (∃ o, s.heap.get? c = some o) → W ≠ c := fun c hc => (liveNe hc hW).symm
  have neG : ∀ c, (∃ o, s.heap.get? c = some o) → gl ≠ c := fun c hc => (liveNe hc hgl).symm
  have lvL : ∃ o, s.heap.get? L = some o := by obtain ⟨o, _, _, e, _⟩ := F.ns; exact ⟨o, e⟩
  have F₂ : Fr h₀ L h₂ m := F₁.change hs₂ (fun z => absurd z (addNe (b := 0) (by decide))) (nL 1)
  have k₂ : StaysBut [L + 1] s.heap h₂ := fun b o hb e => hs₂.extBut b o (fun z => hb (by simp [z])) (hk₁ b o e)
  have well₂ : WellAt h₂ gl W := wellBut hwell (fun z => neG _ (cellSome c1) (List.mem_singleton.mp z)) (fun z => neW _ (cellSome c1) (List.mem_singleton.mp z)) (.same hs₂)
  have nn : ∀ {a b : Nat}, a ≠ b → L + a ∉ [L + b] := fun h z => absurd (List.mem_singleton.mp z) (addNe h)
  have c2₂ := cellBut c2 (nn (by decide)) k₂
  have c3₂ := cellBut c3 (nn (by decide)) k₂
  have c4₂ := cellBut c4 (nn (by decide)) k₂
  have c5₂ := cellBut c5 (nn (by decide)) k₂
  have c6₂ := cellBut c6 (nn (by decide)) k₂
  have hW0 : h₀.get? W = none := by
    cases q : h₀.get? W with
    | none => rfl
    | some o => have := F.keep _ _ q; rw [hW] at this; cases this
  have liveW : ∃ o, h₂.get? W = some o := by obtain ⟨_, _, _, _, _, _, ⟨o, e, _⟩, _⟩ := well₂; exact ⟨o, e⟩
  have liveG : ∃ o, h₂.get? gl = some o := by obtain ⟨_, _, _, _, _, _, _, ⟨o, e, _⟩, _⟩ := well₂; exact ⟨o, e⟩
  have liveL : ∃ o, h₂.get? L = some o := by obtain ⟨o, _, _, e, _⟩ := F₂.ns; exact ⟨o, e⟩
  -- built, orders, sound = [], [], []
  refine wpAny_execs_cons (Assign_Tuple (Tuple_ (spliced_more (List_ (spliced_none (mkList (s := { s with heap := h₂, toks := tk₁ }) fun B h₃ hB hk₃ hpB => ?_))))))
  refine spliced_more (List_ (spliced_none (mkList (s := { s with heap := h₃, toks := tk₁ }) fun O h₄ hO hk₄ hpO => ?_)))
  refine spliced_more (List_ (spliced_none (mkList (s := { s with heap := h₄, toks := tk₁ }) fun S h₅ hS hk₅ hpS => ?_)))
  refine spliced_none (mkTuple (s := { s with heap := h₅, toks := tk₁ }) fun P h₆ hP hk₆ hpP => ?_)
  dsimp only at hB hk₃ hO hk₄ hS hk₅ hk₆ ⊢
  refine assign_Tuple_tuple (s := { s with heap := h₆, toks := tk₁ }) hh hpP rfl rfl fun h₇ e₇ => ?_
  have hk₇ := staysOfExt e₇
  dsimp only at hk₇ ⊢
  have up : h₂.StaysIn h₇ := fun b o e => hk₇ b o (hk₆ b o (hk₅ b o (hk₄ b o (hk₃ b o e))))
  have up3 : h₃.StaysIn h₇ := fun b o e => hk₇ b o (hk₆ b o (hk₅ b o (hk₄ b o e)))
  have up4 : h₄.StaysIn h₇ := fun b o e => hk₇ b o (hk₆ b o (hk₅ b o e))
  have up5 : h₅.StaysIn h₇ := fun b o e => hk₇ b o (hk₆ b o e)
  have F₇ := F₂.keptAll up
  have neB : ∀ c, (∃ o, h₂.get? c = some o) → B ≠ c := fun c hc => (liveNe hc hB).symm
  have neO : ∀ c, (∃ o, h₃.get? c = some o) → O ≠ c := fun c hc => (liveNe hc hO).symm
  have neS : ∀ c, (∃ o, h₄.get? c = some o) → S ≠ c := fun c hc => (liveNe hc hS).symm
  have o3 : ∀ {c}, (∃ o, h₂.get? c = some o) → ∃ o, h₃.get? c = some o := fun hc => someKeep hc hk₃
  have o4 : ∀ {c}, (∃ o, h₂.get? c = some o) → ∃ o, h₄.get? c = some o := fun hc => someKeep (o3 hc) hk₄
  have none0 : ∀ {hp : Heap} {c : Addr}, h₀.StaysIn hp → hp.get? c = none → h₀.get? c = none := by
    intro hp c hk e
    cases q : h₀.get? c with
    | none => rfl
    | some o => have := hk _ _ q; rw [e] at this; cases this
  have hB0 : h₀.get? B = none := none0 F₂.keep hB
  have hO0 : h₀.get? O = none := none0 (F₂.keptAll hk₃).keep hO
  have hS0 : h₀.get? S = none := none0 ((F₂.keptAll hk₃).keptAll hk₄).keep hS
  have l1 := cellSome hv₂
  have l2 := cellSome c2₂
  have l3 := cellSome c3₂
  have l4 := cellSome c4₂
  have l5 := cellSome c5₂
  have l6 := cellSome c6₂
  have c2₇ := cellKeeps c2₂ up
  have c3₇ := cellKeeps c3₂ up
  have c4₇ := cellKeeps c4₂ up
  -- the three cells
  refine assignInOrder_cons (wpAny_assign_Name (wpAny_storeName_cell (s := { s with heap := h₇, toks := tk₁ }) (c := L + 2) rfl rfl rfl c2₇ fun h₈ hv₈ hs₈ => ?_))
  dsimp only at hs₈
  have k₈ : StaysBut [L + 2] h₇ h₈ := .same hs₈
  have F₈ : Fr h₀ L h₈ m := F₇.change hs₈ (fun z => absurd z (addNe (b := 0) (by decide))) (nL 2)
  refine assignInOrder_cons (wpAny_assign_Name (wpAny_storeName_cell (s := { s with heap := h₈, toks := tk₁ }) (c := L + 3) rfl rfl rfl (cellBut c3₇ (nn (by decide)) k₈) fun h₉ hv₉ hs₉ => ?_))
  dsimp only at hs₉
  have k₉ : StaysBut [L + 3] h₈ h₉ := .same hs₉
  have F₉ : Fr h₀ L h₉ m := F₈.change hs₉ (fun z => absurd z (addNe (b := 0) (by decide))) (nL 3)
  refine assignInOrder_cons (wpAny_assign_Name (wpAny_storeName_cell (s := { s with heap := h₉, toks := tk₁ }) (c := L + 4) rfl rfl rfl (cellBut (cellBut c4₇ (nn (by decide)) k₈) (nn (by decide)) k₉) fun h₁₀ hv₁₀ hs₁₀ => ?_))
  dsimp only at hs₁₀
  have k₁₀ : StaysBut [L + 4] h₉ h₁₀ := .same hs₁₀
  have F₁₀ : Fr h₀ L h₁₀ m := F₉.change hs₁₀ (fun z => absurd z (addNe (b := 0) (by decide))) (nL 4)
  refine assignInOrder_nil ?_
  dsimp only
  have kk : StaysBut [L + 2, L + 3, L + 4] h₇ h₁₀ := fun b o hb e => k₁₀ b o (fun z => hb (by simp [List.mem_singleton.mp z])) (k₉ b o (fun z => hb (by simp [List.mem_singleton.mp z])) (k₈ b o (fun z => hb (by simp [List.mem_singleton.mp z])) e))
  have away : ∀ {c : Addr}, c ≠ L + 2 → c ≠ L + 3 → c ≠ L + 4 → c ∉ [L + 2, L + 3, L + 4] := by
    intro c h1 h2 h3 z
    simp only [List.mem_cons, List.not_mem_nil, or_false] at z
    rcases z with z | z | z
    · exact h1 z
    · exact h2 z
    · exact h3 z
  have SX : SxOk h₀ ⟨L, W, B, O, S, gl, L⟩ := by
    have n1 : ∀ j : Nat, 0 < j → L ≠ L + j := fun j hj => Nat.ne_of_lt (Nat.lt_add_of_pos_right hj)
    refine ⟨?_, ?_, ?_, ?_, ?_, ?_, ?_⟩
    · simp only [mu, List.nodup_cons, List.mem_cons, List.not_mem_nil, or_false, not_or, not_false_eq_true, List.nodup_nil, and_true]
      refine ⟨⟨n1 5 (by decide), n1 6 (by decide), (neW _ lvL).symm, (neB _ liveL).symm, (neO _ (o3 liveL)).symm, (neS _ (o4 liveL)).symm⟩, ⟨addNe (by decide), (neW _ (cellSome c5)).symm, (neB _ l5).symm, (neO _ (o3 l5)).symm, (neS _ (o4 l5)).symm⟩,
        ⟨(neW _ (cellSome c6)).symm, (neB _ l6).symm, (neO _ (o3 l6)).symm, (neS _ (o4 l6)).symm⟩, ⟨(neB _ liveW).symm, (neO _ (o3 liveW)).symm, (neS _ (o4 liveW)).symm⟩, ⟨(neO _ (plainSome hpB)).symm, (neS _ (someKeep (plainSome hpB) hk₄)).symm⟩, (neS _ (plainSome hpO)).symm⟩
    · intro b hb
      simp only [mu, List.mem_cons, List.not_mem_nil, or_false] at hb
      rcases hb with rfl | rfl | rfl | rfl | rfl | rfl | rfl
      · exact nL 0
      · exact nL 5
      · exact nL 6
      · exact hW0
      · exact hB0
      · exact hO0
      · exact hS0
    all_goals
      simp only [mx, mu, List.mem_cons, List.not_mem_nil, or_false, not_or]
    · exact ⟨(n1 1 (by decide)).symm, (n1 1 (by decide)).symm, addNe (by decide), addNe (by decide), (neW _ (cellSome c1)).symm, (neB _ l1).symm, (neO _ (o3 l1)).symm, (neS _ (o4 l1)).symm⟩
    · exact ⟨(n1 2 (by decide)).symm, (n1 2 (by decide)).symm, addNe (by decide), addNe (by decide), (neW _ (cellSome c2)).symm, (neB _ l2).symm, (neO _ (o3 l2)).symm, (neS _ (o4 l2)).symm⟩
    · exact ⟨(n1 3 (by decide)).symm, (n1 3 (by decide)).symm, addNe (by decide), addNe (by decide), (neW _ (cellSome c3)).symm, (neB _ l3).symm, (neO _ (o3 l3)).symm, (neS _ (o4 l3)).symm⟩
    · exact ⟨(n1 4 (by decide)).symm, (n1 4 (by decide)).symm, addNe (by decide), addNe (by decide), (neW _ (cellSome c4)).symm, (neB _ l4).symm, (neO _ (o3 l4)).symm, (neS _ (o4 l4)).symm⟩
    · exact ⟨neG _ lvL, neG _ lvL, neG _ (cellSome c5), neG _ (cellSome c6), hne, (neB _ liveG).symm, (neO _ (o3 liveG)).symm, (neS _ (o4 liveG)).symm⟩
  refine loop (s := { s with heap := h₁₀, toks := tk₁ }) (X := ⟨L, W, B, O, S, gl, L⟩) (num := none) (ow := none) rfl C₀ SX F₁₀ ?_ hh hdp hu hfr k
  have nz : ∀ {c : Addr}, (∀ j : Nat, 2 ≤ j → j ≤ 4 → c ≠ L + j) → c ∉ [L + 2, L + 3, L + 4] := fun h => away (h 2 (by decide) (by decide)) (h 3 (by decide) (by decide)) (h 4 (by decide) (by decide))
  have lj : ∀ j : Nat, 2 ≤ j → j ≤ 4 → (∃ o, s.heap.get? (L + j) = some o) ∧ ∃ o, h₂.get? (L + j) = some o := by
    intro j h1 h2
    rcases (show j = 2 ∨ j = 3 ∨ j = 4 by omega) with rfl | rfl | rfl
    · exact ⟨cellSome c2, l2⟩
    · exact ⟨cellSome c3, l3⟩
    · exact ⟨cellSome c4, l4⟩
  refine ⟨?_, ?_, ?_, hv₁₀, ?_, ?_, ?_, ?_, ?_, ?_, (fun _ h => nomatch h), (fun _ h => nomatch h), (fun _ h => nomatch h), List.nodup_nil⟩
  · exact cellBut (cellKeeps hv₂ up) (away (addNe (by decide)) (addNe (by decide)) (addNe (by decide))) kk
  · exact cellBut (cellBut hv₈ (nn (by decide)) k₉) (nn (by decide)) k₁₀
  · exact cellBut hv₉ (nn (by decide)) k₁₀
  · exact cellBut (cellKeeps c5₂ up) (away (addNe (by decide)) (addNe (by decide)) (addNe (by decide))) kk
  · exact cellBut (cellKeeps c6₂ up) (away (addNe (by decide)) (addNe (by decide)) (addNe (by decide))) kk
  · exact wellBut (well₂.keeps up) (nz fun j h1 h2 => neG _ (lj j h1 h2).1) (nz fun j h1 h2 => neW _ (lj j h1 h2).1) kk
  · exact plainBut (hpB.at fun o e => up3 _ o e) (nz fun j h1 h2 => neB _ (lj j h1 h2).2) kk
  · exact plainBut (hpO.at fun o e => up4 _ o e) (nz fun j h1 h2 => neO _ (o3 (lj j h1 h2).2)) kk
  · exact ⟨[], plainBut (hpS.at fun o e => up5 _ o e) (nz fun j h1 h2 => neS _ (o4 (lj j h1 h2).2)) kk, .nil⟩
end
end Mine

theorem PySem.Challenge.cw_pq0388_01_holds : PySem.Challenge.rw_pq0388_01.Holds := by
  refine Mine.hd ?_
  k_go0
  rename_i w s₀ s₁ mg mb G0 Y0 fa o pm doc ho hg KX X V GL T B TE TW wa oa M fb ob hcd ns hs hlay0 hL1 hr1 hl2 as1 as2 a vs as3 hL ra w1 r0 hI hr hc1 hc2 K0 hD h₁ tk₁ F o6 o5 o4 o3 o2 o1 d6 d5 d4 d3 d2 d1 N X0
  have C₀ : Mine.Cx w s₁.heap := ⟨KX, _, _, topRead_of T⟩
  have hlen : vs.length ≤ 63 := by
    have := hI.length
    omega
  have c : ∀ {c : Addr} {o : Obj} {v : Option Value}, (c, o) ∈ _ → o.data = .cell v → h₁.IsCell c v := fun hm hd => ⟨_, (N _ hm).1, hd⟩
  refine wpAny_mono (Mine.law_body (s := { s₁ with heap := h₁, toks := tk₁ }) (L := s₁.heap.objs.size) (Q := fun f s' => f = .ret (.bool true) ∧ s'.gens = s₁.gens ∧ s'.os = s₁.os ∧ ∃ m', Fr s₁.heap s₁.heap.objs.size s'.heap m') C₀ F rfl hL hI hlen
    (c (o := o1) (by first | k_memK | simp) d1) (c (o := o2) (by first | k_memK | simp) d2) (c (o := o3) (by first | k_memK | simp) d3) (c (o := o4) (by first | k_memK | simp) d4) (c (o := o5) (by first | k_memK | simp) d5) (c (o := o6) (by first | k_memK | simp) d6) rfl (by show 301 + 1 + 200 < recursionLimit; decide) (by show 4 + 3 + 1000 < cLine; decide) rfl fun h' tk m' F' => ⟨rfl, rfl, rfl, m', F'⟩) (fun f s' h => ?_) fun _ _ h => h.elim
  obtain ⟨rfl, hgens, hos, m', F'⟩ := h
  exact goodW_bool F' (hgens.trans hg) (raisesW_false (by wrow_none_raised)) (by wrow_post) hos
