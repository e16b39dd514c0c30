import PyProof.Rows.All
import Wide.All
import OpenK.AllK
import Wide.FinOn
import KE.KStateDown
import HandS.ForMost
import HandS.ForExc
import HandS.Defaults
import HandS.Head0
import HandS.Head1
import HandS.Head2
import HandS.HeadEnd
import HandS.HeadHook1
import HandS.HeadHook2
import HandS.EndBits
import HandS.TupAny
import HandS.TupMul
import HandS.IsInst
import HandS.Deep
import HandS.Wide
import HandS.FStr
import HandS.RaiseMore
import HandS.Codes
import HandS.Rev
import HandS.Zip
import PySem.Challenge.RW_blameless_k00_operators_on_words
set_option Elab.async false
set_option linter.all false
set_option maxRecDepth 100000
set_option maxHeartbeats 2000000
/-! ## The head of a law: facts of every def and class, by names (own text) -/
namespace BH
open PySem PySem.Spec PyProof.Rows L2 He
/-- facts are Bool questions about the written part -/
abbrev Qs : Type := List (PySem.W.Frag → Bool)
def obsX (qs : Qs) (fn : List DefD) (K : PySem.W.Frag) : AlD := ((qs.all fun f => f K) && fn.all fun d => d.ok K, fn.map fun d => fnW K d.at_)
def SaysX (qs : Qs) (fn : List DefD) (K : PySem.W.Frag) : Prop := obsX qs fn K = valD fn
def obsXG (n : Nat) (qs : Qs) (fn : List DefD) (g : Addr → Option Obj) : AlD := obsX qs fn (frG g (asD g n))
def hookX (n : Nat) (qs : Qs) (fn : List DefD) : PySem.W.Hook where
  α := AlD
  obs := fun s => obsXG n qs fn s.heap.get?
  val := fun _ => valD fn
  says := fun _ h => ∃ K : PySem.W.Frag, K.In h ∧ SaysX qs fn K
  of := fun _ _ e => ⟨_, frG_in, e⟩
  keeps := fun _ _ _ ⟨K, hK, c⟩ k => ⟨K, PySem.W.Frag.In.keeps hK k, c⟩
theorem obsXG_eq {n : Nat} {qs : Qs} {fn : List DefD} {g : Addr → Option Obj} {s : Shared} (h : ∀ a, g a = s.heap.get? a) : obsXG n qs fn g = (hookX n qs fn).obs s := by
  have e : g = s.heap.get? := funext h
  rw [e] <;> rfl
section
variable {qs : Qs} {fn : List DefD} {K : PySem.W.Frag}
theorem SaysX.fact (c : SaysX qs fn K) (i : Nat) {f : PySem.W.Frag → Bool} (h : qs[i]? = some f := by rfl) : f K = true := by
  have c1 := (ba (show ((qs.all fun f => f K) && fn.all fun d => d.ok K) = true from congrArg (fun z : AlD => z.1) c)).1
  exact List.all_eq_true.mp c1 f (List.mem_of_getElem? h)
theorem SaysX.def_ (c : SaysX qs fn K) (i : Nat) {d : DefD} (h : fn[i]? = some d := by rfl) : ∃ fd, FunD K d.name d.qual d.params d.body d.scope (d.dvs K) (d.kws K) (fAd K d.at_) fd := by
  have c2 := (ba (show ((qs.all fun f => f K) && fn.all fun d => d.ok K) = true from congrArg (fun z : AlD => z.1) c)).2
  have e : fn.map (fun d => fnW K d.at_) = fn.map DefD.val := congrArg (fun z : AlD => z.2) c
  have e2 : (fn.map fun d => fnW K d.at_)[i]? = (fn.map DefD.val)[i]? := by rw [e]
  rw [List.getElem?_map, List.getElem?_map, h] at e2
  exact DefD.funD (Option.some.inj e2) (List.all_eq_true.mp c2 d (List.mem_of_getElem? h))
end
/-- the end of a law over a head by facts, the script's bits told -/
theorem walk_ofEB {l : PySem.W.OpenLaw} {n k : Nat} {q : Program} {loose : List Str} {XP : (Str → Option Value) → Heap → Prop} {YP : World → Heap → Prop} {d : DefRec} {CX : World → CXT} {x : Str}
    (hn : l.most = some n) (hn2 : n ≤ sizeLine) (hdf : d.params.defaults = []) (hr : Room k callerA)
    (F : ∀ (w : World) (mg : Str → Option Value) (fa : Addr) (h : Heap), YP w h → h.Ns mainGlobals mg → mg d.name = some (.ref fa) →
      ∃ (K : PySem.W.Frag) (fd : FuncData) (sp : Sp), K.In h ∧ (∀ (s : Shared) (u : Value), BindsTo s fd ⟨[u], []⟩ [(x, u)]) ∧
        (∀ (H : Hp) (a : Addr) (ns : List Int), ns.length ≤ n → (∀ n ∈ ns, Builtin.Int.intBits n ≤ 1048576) → Only H → SqL K H a (ns.map V.int) → sp [.ref a] H (fun v _ => v = .bl true) fun _ _ _ => False) ∧
        ∀ base : Heap, K.In base → base.Ns mainGlobals mg → FnOk l.prog w K mg base (CX w) k fa fd [x] sp)
    (hCX : ∀ (w : World) (H : Hp) (s : Shared) (e : Value) (s' : Shared), CX w [] H s (fun _ _ _ => False) e s' → False) :
    PySem.W.WalkO q loose XP YP l.row.toRowW d [] (fun f vs => PySem.call f vs) := by
  refine Att.attach_callB hn hdf fun w s₀ s₁ mg mb fa o pm cd doc a vs ns G Y ho hd hcd hmg hobj hints hlen hbits hg => ?_
  obtain ⟨K, fd, sp, KX, hb, hsp, hF⟩ := F w mg fa _ Y G.T.g hmg
  exact law_call KX G.T.g G.T.b G.T.builtins G.T.nolimit hg hobj hints (Nat.le_trans hlen hn2) hr hF hb (fun H hO hS => hsp H a ns hlen hbits hO hS) fun H e s' => hCX w H s₁ e s'
end BH

set_option Elab.async false
set_option linter.all false
set_option maxRecDepth 100000
set_option maxHeartbeats 2000000
/-! ## The layer of this work: union rules, steps on heaps, data (own text) -/
namespace BL
open PySem PySem.Spec PyProof.Rows L2

/-! ### steps of the heap: what stands as it was -/
def Imm : HO → Prop
  | .tup _ => True
  | .frz _ _ => True
  | _ => False
structure Kp (M : List Addr) (H H' : Hp) : Prop where
  keep : ∀ b o, b ∉ M → H b = some o → H' b = some o
  imm : ∀ b o, Imm o → H b = some o → H' b = some o
  trk : ∀ b o, H b = some o → ∃ o', H' b = some o'
theorem Kp.refl (M : List Addr) (H : Hp) : Kp M H H := ⟨fun _ _ _ h => h, fun _ _ _ h => h, fun _ o h => ⟨o, h⟩⟩
theorem Kp.fresh {M H H' b} (e : Kp M H H') (h : H' b = none) : H b = none := by
  cases q : H b with
  | none => rfl
  | some o =>
    obtain ⟨o', q'⟩ := e.trk b o q
    rw [h] at q'
    cases q'
theorem Kp.new {M H p o} (h : H p = none) : Kp M H (upd H p o) :=
  ⟨fun b u _ e => by rw [upd_ne (ne_of_none e h)]; exact e, fun b u _ e => by rw [upd_ne (ne_of_none e h)]; exact e, fun b u e => ⟨u, by rw [upd_ne (ne_of_none e h)]; exact e⟩⟩
theorem Kp.mut {H p o u} (h : H p = some u) (hi : ¬ Imm u) : Kp [p] H (upd H p o) :=
  ⟨fun b v n e => by rw [upd_ne (fun z => n (by rw [z]; exact List.mem_singleton.mpr rfl))]; exact e,
   fun b v i e => by
    have n : b ≠ p := fun z => by
      rw [z, h] at e
      cases e
      exact hi i
    rw [upd_ne n]
    exact e,
   fun b v e => by
    by_cases n : b = p
    · exact ⟨o, by rw [n, upd_same]⟩
    · exact ⟨v, by rw [upd_ne n]; exact e⟩⟩
/-- from the beginning to now: what changed is named or was not there -/
theorem Kp.step {M M' H0 H H'} (a : Kp M H0 H) (b : Kp M' H H') (s : ∀ m ∈ M', m ∈ M ∨ H0 m = none) : Kp M H0 H' :=
  ⟨fun c o n e => b.keep c o (fun z => (s c z).elim n fun q => by rw [q] at e; cases e) (a.keep c o n e),
   fun c o i e => b.imm c o i (a.imm c o i e),
   fun c o e => let ⟨o', e'⟩ := a.trk c o e; b.trk c o' e'⟩
theorem Kp.weak {M M' H H'} (a : Kp M H H') (s : ∀ m ∈ M, m ∈ M' ∨ H m = none) : Kp M' H H' := Kp.step (Kp.refl M' H) a s
theorem Kp.nil {H H'} (a : Kp [] H H') : ∀ M, Kp M H H' := fun _ => a.weak fun _ h => nomatch h
theorem Kp.one {M p H H'} (a : Kp [p] H H') (s : p ∈ M ∨ H p = none) : Kp M H H' := a.weak fun m h => by
  rw [List.mem_singleton.mp h]
  exact s
theorem Kp.at1 {p H H' b o} (a : Kp [p] H H') (n : b ≠ p) (h : H b = some o) : H' b = some o := a.keep b o (fun z => n (List.mem_singleton.mp z)) h
theorem Kp.at0 {H H' b o} (a : Kp [] H H') (h : H b = some o) : H' b = some o := a.keep b o (fun z => nomatch z) h

/-! ### data: never changed -/
/-- a list that is not changed any more -/
def SqF (K : PySem.W.Frag) (H : Hp) (a : Addr) (xs : List V) : Prop :=
  (∃ o, H a = some (.frz o (.lst xs))) ∨
    ∃ (o : Obj) (its : Array Value) (n : Nat), K.lookup a = some o ∧ o.cls = .type "list" ∧ o.dict = none ∧ o.data = .seq its n ∧ its.size ≤ sizeLine ∧ Vals xs its.toList
theorem SqF.l {K H a xs} (h : SqF K H a xs) : SqL K H a xs := h.elim (fun h => .inl (.inr h)) .inr
theorem SqF.kp {K M H H' a xs} (e : Kp M H H') (h : SqF K H a xs) : SqF K H' a xs := h.elim (fun ⟨o, h⟩ => .inl ⟨o, e.imm _ _ trivial h⟩) .inr
theorem SqT.kp {K M H H' a xs} (e : Kp M H H') (h : SqT K H a xs) : SqT K H' a xs := by
  rcases h with (h | ⟨o, h⟩) | h
  · exact .inl (.inl (e.imm _ _ trivial h))
  · exact .inl (.inr ⟨o, e.imm _ _ trivial h⟩)
  · exact .inr h
mutual
/-- the value v bears the data d, for good -/
def Fp (K : PySem.W.Frag) (H : Hp) : PyData → V → Prop
  | .none, v => v = .non
  | .bool b, v => v = .bl b
  | .int i, v => v = .int i
  | .str s, v => v = .str s
  | .list ds, v => ∃ a xs, v = .ref a ∧ SqF K H a xs ∧ FpL K H ds xs
  | .tuple ds, v => ∃ a xs, v = .ref a ∧ SqT K H a xs ∧ FpL K H ds xs
  | .dict _, _ => False
def FpL (K : PySem.W.Frag) (H : Hp) : List PyData → List V → Prop
  | [], xs => xs = []
  | d :: ds, xs => ∃ v vs, xs = v :: vs ∧ Fp K H d v ∧ FpL K H ds vs
end
mutual
theorem Fp.kp {K M H H'} (e : Kp M H H') : ∀ (d : PyData) (v : V), Fp K H d v → Fp K H' d v
  | .none, _, h => by simpa only [Fp] using h
  | .bool _, _, h => by simpa only [Fp] using h
  | .int _, _, h => by simpa only [Fp] using h
  | .str _, _, h => by simpa only [Fp] using h
  | .list ds, _, h => by
    simp only [Fp] at h ⊢
    obtain ⟨a, xs, r, s, t⟩ := h
    exact ⟨a, xs, r, s.kp e, FpL.kp e ds xs t⟩
  | .tuple ds, _, h => by
    simp only [Fp] at h ⊢
    obtain ⟨a, xs, r, s, t⟩ := h
    exact ⟨a, xs, r, SqT.kp e s, FpL.kp e ds xs t⟩
  | .dict _, _, h => by
    simp only [Fp] at h
theorem FpL.kp {K M H H'} (e : Kp M H H') : ∀ (ds : List PyData) (xs : List V), FpL K H ds xs → FpL K H' ds xs
  | [], _, h => by simpa only [FpL] using h
  | d :: ds, xs, h => by
    simp only [FpL] at h ⊢
    obtain ⟨v, vs, r, s, t⟩ := h
    exact ⟨v, vs, r, Fp.kp e d v s, FpL.kp e ds vs t⟩
end
mutual
theorem Fp.dp {K H} : ∀ (d : PyData) (v : V), Fp K H d v → Dp K H v d
  | .none, _, h => by simp only [Fp] at h; subst h; exact .non
  | .bool _, _, h => by simp only [Fp] at h; subst h; exact .bl _
  | .int _, _, h => by simp only [Fp] at h; subst h; exact .int _
  | .str _, _, h => by simp only [Fp] at h; subst h; exact .str _
  | .list ds, _, h => by
    simp only [Fp] at h
    obtain ⟨a, xs, rfl, s, t⟩ := h
    exact .lst s.l (FpL.dp ds xs t)
  | .tuple ds, _, h => by
    simp only [Fp] at h
    obtain ⟨a, xs, rfl, s, t⟩ := h
    exact .tup s (FpL.dp ds xs t)
  | .dict _, _, h => by simp only [Fp] at h
theorem FpL.dp {K H} : ∀ (ds : List PyData) (xs : List V), FpL K H ds xs → DpAll K H xs ds
  | [], _, h => by simp only [FpL] at h; subst h; exact .nil
  | d :: ds, xs, h => by
    simp only [FpL] at h
    obtain ⟨v, vs, rfl, s, t⟩ := h
    exact .cons (Fp.dp d v s) (FpL.dp ds vs t)
end
theorem FpL.len {K H} : ∀ {ds : List PyData} {xs : List V}, FpL K H ds xs → xs.length = ds.length
  | [], _, h => by simp only [FpL] at h; subst h; rfl
  | d :: ds, xs, h => by
    simp only [FpL] at h
    obtain ⟨v, vs, rfl, _, t⟩ := h
    simp [FpL.len t]
theorem FpL.get {K H} : ∀ {ds : List PyData} {xs : List V} {i : Nat} {d : PyData}, FpL K H ds xs → ds[i]? = some d → ∃ v, xs[i]? = some v ∧ Fp K H d v
  | [], _, _, _, _, e => by simp at e
  | d :: ds, xs, 0, d', h, e => by
    simp only [FpL] at h
    obtain ⟨v, vs, rfl, s, t⟩ := h
    simp at e
    subst e
    exact ⟨v, rfl, s⟩
  | d :: ds, xs, i + 1, d', h, e => by
    simp only [FpL] at h
    obtain ⟨v, vs, rfl, s, t⟩ := h
    obtain ⟨u, h1, h2⟩ := FpL.get (i := i) t (by simpa using e)
    exact ⟨u, by simpa using h1, h2⟩
theorem FpL.app {K H} : ∀ {ds es : List PyData} {xs ys : List V}, FpL K H ds xs → FpL K H es ys → FpL K H (ds ++ es) (xs ++ ys)
  | [], _, _, _, h, g => by simp only [FpL] at h; subst h; exact g
  | d :: ds, es, xs, ys, h, g => by
    simp only [FpL] at h
    obtain ⟨v, vs, rfl, s, t⟩ := h
    show FpL K H (d :: (ds ++ es)) (v :: (vs ++ ys))
    simp only [FpL]
    exact ⟨v, _, rfl, s, FpL.app t g⟩
theorem FpL.one {K H d v} (h : Fp K H d v) : FpL K H [d] [v] := by
  simp only [FpL]
  exact ⟨v, [], rfl, h, rfl⟩
theorem FpL.ints {K H} : ∀ (ns : List Int), FpL K H (ns.map PyData.int) (ns.map V.int)
  | [] => by simp only [List.map_nil, FpL]
  | n :: ns => by
    simp only [List.map_cons, FpL]
    exact ⟨_, _, rfl, by simp only [Fp], FpL.ints ns⟩
end BL

set_option Elab.async false
set_option linter.all false
set_option maxRecDepth 100000
set_option maxHeartbeats 2000000
/-! ## Union rules: one rule an operation, whatever the kinds (own text) -/
namespace BL
open PySem PySem.Spec PyProof.Rows L2
section
variable {X : Cx}
/-! ### list + list, of lists that may be read -/
theorem rd_lst {pins : List (Addr × Obj)} {s : Shared} {σ : L2.St} {H : Hp} {a : Addr} {xs : List V} (I : Inv X pins σ H s) (h : Rd H a (.lst xs)) :
    xs.length ≤ sizeLine ∧ ∃ (its : List Value) (n : Nat), Vals xs its ∧ s.heap.get? a = some { cls := .type "list", data := .seq its.toArray n } := h.ok I.hok
def rCatL : R2 := fun x y H Q => ∃ l b xs zs, x = .ref l ∧ y = .ref b ∧ Rd H l (.lst xs) ∧ Rd H b (.lst zs) ∧ xs.length + zs.length ≤ sizeLine ∧ ∀ p, H p = none → Q (.ref p) (upd H p (.lst (xs ++ zs)))
theorem op_catL : OpR X (binaryOp .Add) rCatL := by
  intro pins s σ H x y v u Q I rx ry h
  obtain ⟨l, b, xs, zs, rfl, rfl, hH, hB, hz, q⟩ := h
  cases rx
  cases ry
  obtain ⟨z, its, n, r, e⟩ := rd_lst I hH
  obtain ⟨z2, its2, n2, r2, e2⟩ := rd_lst I hB
  have hl := r.length
  have hl2 := r2.length
  refine PySem.P.add_list e e2 ?_ (by rw [List.size_toArray, List.size_toArray]; omega)
  have ea : its.toArray ++ its2.toArray = (its ++ its2).toArray := by simp
  rw [ea]
  exact ⟨.ref _, _, I.lnew (t' := s.toks) (r.append r2) (by rw [List.length_append]; omega), rfl, q _ I.fresh⟩
/-! ### + -/
def uAdd (K : PySem.W.Frag) : R2 := fun x y H Q => rI0 (fun i j => .int (i + j)) x y H Q ∨ (∃ i j, x = .str i ∧ y = .str j ∧ i.length + j.length ≤ sizeLine ∧ Q (.str (i ++ j)) H) ∨ rCatL x y H Q ∨ rCatA K x y H Q
theorem u_add : OpR X (binaryOp .Add) (uAdd X.K) := op_add.or (op_add_str.or (op_catL.or op_catA))
/-! ### * -/
def uMul (K : PySem.W.Frag) : R2 := fun x y H Q => rI CMul (fun i j => .int (i * j)) x y H Q ∨ rRep x y H Q
theorem u_mul : OpR X (binaryOp .Mult) (uMul X.K) := op_mul.or op_rep
def uSub : R2 := rI0 fun i j => .int (i - j)
theorem u_sub : OpR X (binaryOp .Sub) uSub := op_sub
def uFdiv : R2 := rI CDiv fun i j => .int (i / j)
theorem u_fdiv : OpR X (binaryOp .FloorDiv) uFdiv := op_fdiv
def uMod : R2 := rI (fun _ j => 0 < j) fun i j => .int (i % j)
theorem u_mod : OpR X (binaryOp .Mod) uMod := op_mod
def uPow : R2 := rI CPow fun i j => .int (i ^ j.toNat)
theorem u_pow : OpR X (binaryOp .Pow) uPow := op_pow
/-! ### comparisons -/
def uEq (K : PySem.W.Frag) : R2 := fun x y H Q => rEq x y H Q ∨ rEqD K x y H Q
theorem u_eq (hu : X.A.units + 64 < cLine) : OpR X (compareOp .Eq) (uEq X.K) := op_eq.or (op_eqD hu)
def uNe (K : PySem.W.Frag) : R2 := fun x y H Q => rNe x y H Q ∨ rNeD K x y H Q
theorem u_ne (hu : X.A.units + 64 < cLine) : OpR X (compareOp .NotEq) (uNe X.K) := op_ne.or (op_neD hu)
def uLt : R2 := rI0 fun i j => .bl (decide (i < j))
theorem u_lt : OpR X (compareOp .Lt) uLt := op_lt
def uLe : R2 := fun x y H Q => rI0 (fun i j => .bl (decide (i ≤ j))) x y H Q ∨ (∃ i j, x = .str i ∧ y = .str j ∧ Q (.bl (!decide (j.cps.toList < i.cps.toList))) H)
theorem u_le : OpR X (compareOp .LtE) uLe := op_le.or op_le_str
def uGt : R2 := rI0 fun i j => .bl (decide (j < i))
theorem u_gt : OpR X (compareOp .Gt) uGt := op_gt
def uGe : R2 := rI0 fun i j => .bl (decide (j ≤ i))
theorem u_ge : OpR X (compareOp .GtE) uGe := op_ge
def uIs : R2 := fun x y H Q => (y = .non ∧ Q (.bl (decide (x = .non))) H)
theorem u_is : OpR X (compareOp .Is) uIs := op_isN
def uIsnt : R2 := fun x y H Q => (y = .non ∧ Q (.bl (!decide (x = .non))) H)
theorem u_isnt : OpR X (compareOp .IsNot) uIsnt := op_notN
/-! ### subscripts -/
def uIx (K : PySem.W.Frag) : R2 := rIx K
/-! ### what a for walks: a list or a tuple -/
def uLen (K : PySem.W.Frag) : List V → Hp → VK → Prop := fun xs H Q => ∃ x n, xs = [x] ∧ LenV K x H n ∧ Q (.int n) H
theorem u_len : CallR X (.builtin "len") (uLen X.K) := call_len
def uInt : List V → Hp → VK → Prop := fun xs H Q => (∃ i, xs = [.int i] ∧ Q (.int i) H) ∨ ∃ k, xs = [.bl k] ∧ Q (.int (if k then 1 else 0)) H
theorem u_int : CallR X (.type "int") uInt := call_int1
def uList (K : PySem.W.Frag) : List V → Hp → VK → Prop := fun xs H Q => ∃ p ys, xs = [.ref p] ∧ (SqL K H p ys ∨ SqT K H p ys) ∧ ∀ l, H l = none → Q (.ref l) (upd H l (.lst ys))
theorem u_list : CallR X (.type "list") (uList X.K) := call_list_of
def uTuple (K : PySem.W.Frag) : List V → Hp → VK → Prop := fun xs H Q => ∃ p ys, xs = [.ref p] ∧ ((SqL K H p ys ∧ ∀ l, H l = none → Q (.ref l) (upd H l (.tup ys))) ∨ (SqT K H p ys ∧ Q (.ref p) H))
theorem u_tuple : CallR X (.type "tuple") (uTuple X.K) := call_tuple_of
def uStr : List V → Hp → VK → Prop := fun xs H Q => ∃ i, xs = [.int i] ∧ i.natAbs.log2 < 1920 ∧ Q (.str (toString i)) H
theorem u_str : CallR X (.type "str") uStr := call_str_int
def uMin : List V → Hp → VK → Prop := fun xs H Q => ∃ i j, xs = [.int i, .int j] ∧ Q (.int (if j < i then j else i)) H
theorem u_min (hc : X.calm = true) : CallR X (.builtin "min") uMin := call_min2 hc
def uMax : List V → Hp → VK → Prop := fun xs H Q => ∃ i j, xs = [.int i, .int j] ∧ Q (.int (if j > i then j else i)) H
theorem u_max (hc : X.calm = true) : CallR X (.builtin "max") uMax := call_max2 hc
/-! ### isinstance of data and a built-in type -/
def isT (n : String) : PyData → Option Bool
  | .none => if n = "tuple" ∨ n = "list" ∨ n = "bool" ∨ n = "int" ∨ n = "str" then some false else none
  | .bool _ => if n = "bool" ∨ n = "int" then some true else if n = "tuple" ∨ n = "list" ∨ n = "str" then some false else none
  | .int _ => if n = "int" then some true else if n = "tuple" ∨ n = "list" ∨ n = "bool" ∨ n = "str" then some false else none
  | .str _ => if n = "str" then some true else if n = "tuple" ∨ n = "list" ∨ n = "bool" ∨ n = "int" then some false else none
  | .list _ => if n = "list" then some true else if n = "tuple" ∨ n = "str" ∨ n = "bool" ∨ n = "int" then some false else none
  | .tuple _ => if n = "tuple" then some true else if n = "list" ∨ n = "str" ∨ n = "bool" ∨ n = "int" then some false else none
  | .dict _ => none
def tyN : PyData → String
  | .none => "NoneType"
  | .bool _ => "bool"
  | .int _ => "int"
  | .str _ => "str"
  | .list _ => "list"
  | .tuple _ => "tuple"
  | .dict _ => "dict"
theorem isT_kit {K : PySem.W.Frag} {n : String} {d : PyData} {b : Bool} (h : isT n d = some b) : PySem.W.kitOne K (.type (tyN d)) (.type n) = some b := by
  refine kit_ty ?_
  cases d <;> simp only [isT, tyN] at h ⊢ <;> (repeat' split at h) <;>
    first
    | (cases h; rcases ‹_ ∨ _› with rfl | rfl | rfl | rfl | rfl <;> decide +kernel)
    | (cases h; rcases ‹_ ∨ _› with rfl | rfl | rfl | rfl <;> decide +kernel)
    | (cases h; rcases ‹_ ∨ _› with rfl | rfl | rfl <;> decide +kernel)
    | (cases h; rcases ‹_ ∨ _› with rfl | rfl <;> decide +kernel)
    | (cases h; subst_vars; decide +kernel)
    | cases h
def uIsi (K : PySem.W.Frag) : List V → Hp → VK → Prop := fun xs H Q => ∃ v d n b, xs = [v, .ty n] ∧ Dp K H v d ∧ isT n d = some b ∧ Q (.bl b) H
theorem u_isi : CallR X (.builtin "isinstance") (uIsi X.K) := by
  intro pins s σ H xs us Q I r h
  obtain ⟨v, d, n, b, rfl, hd, e, q⟩ := h
  obtain ⟨u1, u2, rfl, r1, r2⟩ := vals2 r
  cases (show u2 = Value.type n from r2)
  have k := isT_kit (K := X.K) e
  have fin : ∀ tk, EP X pins σ Q (.bool b) { s with toks := tk } := fun tk => ⟨.bl b, H, I.tok tk, rfl, q⟩
  cases d with
  | none =>
    cases hd
    cases (show u1 = Value.none from r1)
    exact PySem.W.kia_one PySem.W.kitx_none I.kIn True.intro k (fun z => nomatch z) fin
  | bool y =>
    cases hd
    cases (show u1 = Value.bool y from r1)
    exact PySem.W.kia_one PySem.W.kitx_bool I.kIn True.intro k (fun z => nomatch z) fin
  | int i =>
    cases hd
    obtain ⟨t, rfl⟩ := (show ∃ t, u1 = Value.int i t from r1)
    exact PySem.W.kia_one PySem.W.kitx_int I.kIn True.intro k (fun z => nomatch z) fin
  | str y =>
    cases hd
    obtain ⟨t, rfl⟩ := (show ∃ t, u1 = Value.str y t from r1)
    exact PySem.W.kia_one PySem.W.kitx_str I.kIn True.intro k (fun z => nomatch z) fin
  | list ds =>
    cases hd with
    | lst hs ha =>
      cases r1
      obtain ⟨its, rv, ⟨o, n, ho, hc, _, hd⟩, _⟩ := I.list hs
      exact PySem.W.kia_one PySem.W.kitx_list I.kIn ⟨o, ho, hc⟩ k (fun z => nomatch z) fin
  | tuple ds =>
    cases hd with
    | tup hs ha =>
      cases r1
      obtain ⟨its, rv, ⟨o, ho, hc, n, hd⟩, _⟩ := I.tuple hs
      exact PySem.W.kia_one PySem.W.kitx_tuple I.kIn ⟨o, ho, hc⟩ k (fun z => nomatch z) fin
  | dict _ => cases hd
/-! ### freezing -/
/-- the value may be frozen: a list that nobody changes any more -/
def tFrz (t : TE) : TE := fun σ H Q => t σ H fun v H1 => Q v H1 ∨ ∃ a xs, v = .ref a ∧ H1 a = some (.lst xs) ∧ ∀ o, Q v (upd H1 a (.frz o (.lst xs)))
theorem pe_frz {e : Expr} {t : TE} (h : PE X e t) : PE X e (tFrz t) := by
  refine ⟨fun pins s σ H Q I hw => ?_⟩
  refine thn (h.run pins s σ H _ I hw) fun u s1 ⟨v, H1, I1, r, q⟩ => ?_
  rcases q with q | ⟨a, xs, rfl, ha, q⟩
  · exact ⟨v, H1, I1, r, q⟩
  · obtain ⟨o, I2⟩ := I1.lock ha trivial
    exact ⟨.ref a, _, I2, r, q o⟩
/-! ### for over a list or a tuple -/
/-- a sequence that may be read -/
def Sq (K : PySem.W.Frag) (H : Hp) (a : Addr) (xs : List V) : Prop := SqL K H a xs ∨ SqT K H a xs
end
end BL

set_option Elab.async false
set_option linter.all false
set_option maxRecDepth 100000
set_option maxHeartbeats 2000000
/-! ## Readings, step by step (own text) -/
namespace BL
open PySem PySem.Spec PyProof.Rows L2
def Val (te : TE) (σ : L2.St) (H : Hp) (v : V) : Prop := ∀ Q : VK, Q v H → te σ H Q
def Ans (t : TT) (σ : L2.St) (H : Hp) (b : Bool) : Prop := ∀ Q : Bool → Hp → Prop, Q b H → t σ H Q
section
variable {K : PySem.W.Frag} {σ : L2.St} {H : Hp} {Q : VK} {ta tb te : TE} {tt tu : TT} {x y v : V} {QB : Bool → Hp → Prop}
variable {nx bk ct : L2.St → Hp → Prop} {rt : VK} {t u : TS}
/-! ### statements -/
theorem g_seq (h : t ⟨fun σ H => u ⟨nx, rt, bk, ct⟩ σ H, rt, bk, ct⟩ σ H) : tSeq t u ⟨nx, rt, bk, ct⟩ σ H := h
theorem g_next (h : nx σ H) : tNext ⟨nx, rt, bk, ct⟩ σ H := h
theorem g_break (h : bk σ H) : tBreak ⟨nx, rt, bk, ct⟩ σ H := h
theorem g_ret (h : te σ H rt) : tRet te ⟨nx, rt, bk, ct⟩ σ H := h
theorem g_retN (h : rt .non H) : tRetN ⟨nx, rt, bk, ct⟩ σ H := h
theorem g_drop (h : te σ H fun _ H1 => nx σ H1) : tDrop te ⟨nx, rt, bk, ct⟩ σ H := h
theorem g_asg {g : TG} (h : te σ H fun x H1 => g x σ H1 nx) : tAsg te g ⟨nx, rt, bk, ct⟩ σ H := h
theorem g_name {i : Nat} {σ' : L2.St} {QS : L2.St → Hp → Prop} (e : σ.set i (some v) = σ') (h : QS σ' H) : gName i v σ H QS := by
  subst e
  exact h
theorem g_ifs (h : tt σ H fun b H1 => if b = true then t ⟨nx, rt, bk, ct⟩ σ H1 else u ⟨nx, rt, bk, ct⟩ σ H1) : tIfS tt t u ⟨nx, rt, bk, ct⟩ σ H := h
theorem g_cut (Mid : L2.St → Hp → Prop) (h1 : t ⟨Mid, rt, bk, ct⟩ σ H) (h2 : ∀ σ' H', Mid σ' H' → u ⟨nx, rt, bk, ct⟩ σ' H') : C8.tCut t u ⟨nx, rt, bk, ct⟩ σ H := ⟨Mid, h1, h2⟩
/-! ### tests -/
def LT (x : V) (H : Hp) (QB : Bool → Hp → Prop) : Prop := ∃ k, x = .bl k ∧ QB k H
theorem g_test (h : te σ H fun x H1 => LT x H1 QB) : tTest te σ H QB := h
theorem g_tB (h : te σ H fun x H1 => LT x H1 QB) : tB te σ H QB := h
theorem g_LT {b : Bool} (h : QB b H) : LT (.bl b) H QB := ⟨b, rfl, h⟩
def LTru (K : PySem.W.Frag) (x : V) (H : Hp) (QB : Bool → Hp → Prop) : Prop := ∃ k, TruV K x H k ∧ QB k H
/-- the truth of a value -/
def tTr (K : PySem.W.Frag) (ta : TE) : TT := fun σ H Q => ta σ H fun x H' => ∃ k, TruV K x H' k ∧ Q k H'
theorem pt_tr {X : Cx} {a : Expr} {ta : TE} (ha : PE X a ta) (he : ∀ whole, isTrue a X.env whole = (do let v ← whole; standAt a.pos; holding [v] (truthy v)) := by intro _; rfl) : PT X a (tTr X.K ta) := pt_truth ha he
theorem g_tr (h : te σ H fun x H1 => LTru K x H1 QB) : tTr K te σ H QB := h
theorem g_truI {i : Int} (h : QB (decide (i ≠ 0)) H) : LTru K (.int i) H QB := ⟨_, rfl, by
  have e : (i != 0) = decide (i ≠ 0) := by by_cases z : i = 0 <;> simp [z]
  rw [e]; exact h⟩
theorem g_truB {b : Bool} (h : QB b H) : LTru K (.bl b) H QB := ⟨_, rfl, h⟩
theorem g_truN (h : QB false H) : LTru K .non H QB := ⟨_, rfl, h⟩
theorem g_truL {a : Addr} {xs : List V} (hs : SqL K H a xs) (h : QB (decide (xs ≠ [])) H) : LTru K (.ref a) H QB := ⟨_, .inl ⟨xs, hs, rfl⟩, by
  have e : (!xs.isEmpty) = decide (xs ≠ []) := by cases xs <;> simp
  rw [e]; exact h⟩
theorem g_truT {a : Addr} {xs : List V} (hs : SqT K H a xs) (h : QB (decide (xs ≠ [])) H) : LTru K (.ref a) H QB := ⟨_, .inr (.inl ⟨xs, hs, rfl⟩), by
  have e : (!xs.isEmpty) = decide (xs ≠ []) := by cases xs <;> simp
  rw [e]; exact h⟩
theorem g_and (h : tt σ H fun c H1 => if c = true then tu σ H1 QB else QB false H1) : tAnd tt tu σ H QB := h
theorem g_or (h : tt σ H fun c H1 => if c = true then QB true H1 else tu σ H1 QB) : tOr tt tu σ H QB := h
theorem g_not (h : tt σ H fun c H1 => QB (!c) H1) : tNot tt σ H QB := h
theorem g_iteP {c A B : Prop} [Decidable c] (h1 : c → A) (h2 : ¬ c → B) : if decide c = true then A else B := by
  by_cases h : c
  · rw [decide_eq_true h]; exact h1 h
  · rw [decide_eq_false h]; exact h2 h
theorem g_iteN {c A B : Prop} [Decidable c] (h1 : ¬ c → A) (h2 : c → B) : if (!decide c) = true then A else B := by
  by_cases h : c
  · rw [decide_eq_true h]; exact h2 h
  · rw [decide_eq_false h]; exact h1 h
theorem g_iteNN {c A B : Prop} [Decidable c] (h1 : c → A) (h2 : ¬ c → B) : if (!(!decide c)) = true then A else B := by
  rw [Bool.not_not]
  exact g_iteP h1 h2
theorem g_iteT {A B : Prop} (h : A) : if true = true then A else B := by rw [if_pos rfl]; exact h
theorem g_iteF {A B : Prop} (h : B) : if false = true then A else B := by rw [if_neg Bool.false_ne_true]; exact h
theorem g_iteNT {A B : Prop} (h : B) : if (!true) = true then A else B := by rw [Bool.not_true, if_neg Bool.false_ne_true]; exact h
theorem g_iteNF {A B : Prop} (h : A) : if (!false) = true then A else B := by rw [Bool.not_false, if_pos rfl]; exact h
theorem g_iteB {b : Bool} {A B : Prop} (h1 : b = true → A) (h2 : b = false → B) : if b = true then A else B := by
  cases b with
  | true => exact g_iteT (h1 rfl)
  | false => exact g_iteF (h2 rfl)
/-- a test as one truth value: pure -/
theorem g_ifV {b : Bool} (h : Ans tt σ H b) (h1 : b = true → t ⟨nx, rt, bk, ct⟩ σ H) (h2 : b = false → u ⟨nx, rt, bk, ct⟩ σ H) : tIfS tt t u ⟨nx, rt, bk, ct⟩ σ H := by
  refine h _ ?_
  exact g_iteB h1 h2
theorem a_test {b : Bool} (h : Val te σ H (.bl b)) : Ans (tTest te) σ H b := fun _ q => h _ ⟨b, rfl, q⟩
theorem a_tB {b : Bool} (h : Val te σ H (.bl b)) : Ans (tB te) σ H b := fun _ q => h _ ⟨b, rfl, q⟩
theorem a_and {a b : Bool} (h1 : Ans tt σ H a) (h2 : a = true → Ans tu σ H b) : Ans (tAnd tt tu) σ H (a && b) := fun Q q => h1 _ (by
  cases a with
  | true => rw [if_pos rfl]; exact h2 rfl _ q
  | false => rw [if_neg Bool.false_ne_true]; exact q)
theorem a_or {a b : Bool} (h1 : Ans tt σ H a) (h2 : a = false → Ans tu σ H b) : Ans (tOr tt tu) σ H (a || b) := fun Q q => h1 _ (by
  cases a with
  | true => rw [if_pos rfl]; exact q
  | false => rw [if_neg Bool.false_ne_true]; exact h2 rfl _ q)
theorem a_not {a : Bool} (h1 : Ans tt σ H a) : Ans (tNot tt) σ H (!a) := fun _ q => h1 _ q
/-- a pure value by its operator -/
def RV2 (r : R2) (x y : V) (H : Hp) (z : V) : Prop := ∀ Q : VK, Q z H → r x y H Q
theorem v_op {r : R2} {z : V} (ha : Val ta σ H x) (hb : Val tb σ H y) (hr : RV2 r x y H z) : Val (tOp r ta tb) σ H z := fun Q q => ha _ (hb _ (hr Q q))
theorem v_var {i : Nat} (h : σ[i]? = some (some v)) : Val (tVar i) σ H v := fun _ q => ⟨v, h, q⟩
theorem v_c : Val (tC v) σ H v := fun _ q => q
/-! ### expressions -/
theorem g_var {i : Nat} (e : σ[i]? = some (some v)) (h : Q v H) : tVar i σ H Q := ⟨v, e, h⟩
theorem g_c (h : Q v H) : tC v σ H Q := h
theorem g_op {r : R2} (h : ta σ H fun x H1 => tb σ H1 fun y H2 => r x y H2 Q) : tOp r ta tb σ H Q := h
theorem g_if (h : tt σ H fun c H1 => if c = true then ta σ H1 Q else tb σ H1 Q) : tIf tt ta tb σ H Q := h
def LB (x : V) (R : Bool → Prop) : Prop := ∃ c, x = .bl c ∧ R c
theorem g_LB {b : Bool} {R : Bool → Prop} (h : R b) : LB (.bl b) R := ⟨b, rfl, h⟩
theorem g_andV (h : ta σ H fun x H1 => LB x fun c => if c = true then tb σ H1 Q else Q (.bl false) H1) : tAndV ta tb σ H Q := h
theorem g_orV (h : ta σ H fun x H1 => LB x fun c => if c = true then Q (.bl true) H1 else tb σ H1 Q) : tOrV ta tb σ H Q := h
theorem g_notV (h : ta σ H fun x H1 => LB x fun c => Q (.bl (!c)) H1) : tNotV ta σ H Q := h
theorem g_un {r : V → Hp → VK → Prop} (h : ta σ H fun x H1 => r x H1 Q) : tUn r ta σ H Q := h
theorem g_neg {i : Int} (h : Q (.int (-i)) H) : rU (fun i => .int (-i)) (.int i) H Q := ⟨i, rfl, h⟩
section
variable {tA : TA} {QL : List V → Hp → Prop}
theorem g_nil (h : QL [] H) : tNil σ H QL := h
theorem g_cons (h : ta σ H fun x H1 => tA σ H1 fun xs H2 => QL (x :: xs) H2) : tCons ta tA σ H QL := h
def NewTup (Q : VK) (xs : List V) (H : Hp) : Prop := xs.length ≤ sizeLine ∧ ∀ p, H p = none → Q (.ref p) (upd H p (.tup xs))
def NewLst (Q : VK) (xs : List V) (H : Hp) : Prop := xs.length ≤ sizeLine ∧ ∀ p, H p = none → Q (.ref p) (upd H p (.lst xs))
theorem g_tup (h : tA σ H fun xs H1 => NewTup Q xs H1) : tTup tA σ H Q := h
theorem g_lst (h : tA σ H fun xs H1 => NewLst Q xs H1) : tLst tA σ H Q := h
theorem g_newT {xs : List V} (hl : xs.length ≤ sizeLine) (h : ∀ p H2, H p = none → Kp [] H H2 → H2 p = some (.tup xs) → Q (.ref p) H2) : NewTup Q xs H := ⟨hl, fun p n => h p _ n (Kp.new n) upd_same⟩
theorem g_newL {xs : List V} (hl : xs.length ≤ sizeLine) (h : ∀ p H2, H p = none → Kp [] H H2 → H2 p = some (.lst xs) → Q (.ref p) H2) : NewLst Q xs H := ⟨hl, fun p n => h p _ n (Kp.new n) upd_same⟩
/-! ### calls -/
theorem g_call {sp : Sp} {E : XK} (h : tA σ H fun vs H1 => sp vs H1 Q E) : tCall sp [] E tA σ H Q := by
  have e : (fun vs H1 => sp (vs ++ []) H1 Q E) = fun vs H1 => sp vs H1 Q E := by
    funext vs H1
    rw [List.append_nil]
  show tA σ H (fun vs H1 => sp (vs ++ []) H1 Q E)
  rw [e]
  exact h
theorem g_cb {r : List V → Hp → VK → Prop} (h : tA σ H fun vs H1 => r vs H1 Q) : tCB r tA σ H Q := h
theorem uLen_L {a : Addr} {xs : List V} (hs : SqL K H a xs) (h : Q (.int xs.length) H) : uLen K [.ref a] H Q := ⟨_, _, rfl, .inl ⟨xs, hs, rfl⟩, h⟩
theorem uLen_T {a : Addr} {xs : List V} (hs : SqT K H a xs) (h : Q (.int xs.length) H) : uLen K [.ref a] H Q := ⟨_, _, rfl, .inr ⟨xs, hs, rfl⟩, h⟩
theorem uLen_S {s : Str} (hs : s.length ≤ sizeLine) (h : Q (.int s.length) H) : uLen K [.str s] H Q := ⟨_, _, rfl, ⟨hs, rfl⟩, h⟩
theorem uInt_I {i : Int} (h : Q (.int i) H) : uInt [.int i] H Q := .inl ⟨i, rfl, h⟩
theorem uInt_B {b : Bool} (h : Q (.int (if b = true then 1 else 0)) H) : uInt [.bl b] H Q := .inr ⟨b, rfl, h⟩
theorem uMin_I {i j : Int} (h : Q (.int (if j < i then j else i)) H) : uMin [.int i, .int j] H Q := ⟨i, j, rfl, h⟩
theorem uMax_I {i j : Int} (h : Q (.int (if j > i then j else i)) H) : uMax [.int i, .int j] H Q := ⟨i, j, rfl, h⟩
theorem uStr_I {i : Int} (hz : i.natAbs.log2 < 1920) (h : Q (.str (toString i)) H) : uStr [.int i] H Q := ⟨i, rfl, hz, h⟩
theorem uList_L {a : Addr} {xs : List V} (hs : SqL K H a xs) (h : ∀ p H2, H p = none → Kp [] H H2 → H2 p = some (.lst xs) → Q (.ref p) H2) : uList K [.ref a] H Q := ⟨_, _, rfl, .inl hs, fun p n => h p _ n (Kp.new n) upd_same⟩
theorem uList_T {a : Addr} {xs : List V} (hs : SqT K H a xs) (h : ∀ p H2, H p = none → Kp [] H H2 → H2 p = some (.lst xs) → Q (.ref p) H2) : uList K [.ref a] H Q := ⟨_, _, rfl, .inr hs, fun p n => h p _ n (Kp.new n) upd_same⟩
theorem uTuple_L {a : Addr} {xs : List V} (hs : SqL K H a xs) (h : ∀ p H2, H p = none → Kp [] H H2 → H2 p = some (.tup xs) → Q (.ref p) H2) : uTuple K [.ref a] H Q := ⟨_, xs, rfl, .inl ⟨hs, fun p n => h p _ n (Kp.new n) upd_same⟩⟩
theorem uTuple_T {a : Addr} {xs : List V} (hs : SqT K H a xs) (h : Q (.ref a) H) : uTuple K [.ref a] H Q := ⟨_, xs, rfl, .inr ⟨hs, h⟩⟩
theorem uIsi_D {v : V} {d : PyData} {n : String} {b : Bool} (hd : Fp K H d v) (e : isT n d = some b) (h : Q (.bl b) H) : uIsi K [v, .ty n] H Q := ⟨v, d, n, b, rfl, Fp.dp _ _ hd, e, h⟩
/-! ### freezing -/
def LFrz (Q : VK) (v : V) (H : Hp) : Prop := Q v H ∨ ∃ a xs, v = .ref a ∧ H a = some (.lst xs) ∧ ∀ o, Q v (upd H a (.frz o (.lst xs)))
theorem g_frz (h : te σ H fun v H1 => LFrz Q v H1) : tFrz te σ H Q := h
theorem g_frzNo (h : Q v H) : LFrz Q v H := .inl h
theorem g_frzYes {a : Addr} {xs : List V} (ha : H a = some (.lst xs)) (h : ∀ H2, Kp [a] H H2 → SqF K H2 a xs → Q (.ref a) H2) : LFrz Q (.ref a) H :=
  .inr ⟨a, xs, rfl, ha, fun o => h _ (Kp.mut ha (fun z => z)) (.inl ⟨o, upd_same⟩)⟩
end
/-! ### operators -/
theorem uAdd_I {i j : Int} (h : Q (.int (i + j)) H) : uAdd K (.int i) (.int j) H Q := .inl ⟨i, j, rfl, rfl, h⟩
theorem uAdd_S {i j : Str} (hl : i.length + j.length ≤ sizeLine) (h : Q (.str (i ++ j)) H) : uAdd K (.str i) (.str j) H Q := .inr (.inl ⟨i, j, rfl, rfl, hl, h⟩)
theorem uAdd_L {a b : Addr} {xs ys : List V} (h1 : Rd H a (.lst xs)) (h2 : Rd H b (.lst ys)) (hl : xs.length + ys.length ≤ sizeLine) (h : ∀ p H2, H p = none → Kp [] H H2 → H2 p = some (.lst (xs ++ ys)) → Q (.ref p) H2) : uAdd K (.ref a) (.ref b) H Q :=
  .inr (.inr (.inl ⟨a, b, xs, ys, rfl, rfl, h1, h2, hl, fun p n => h p _ n (Kp.new n) upd_same⟩))
theorem uSub_I {i j : Int} (h : Q (.int (i - j)) H) : uSub (.int i) (.int j) H Q := ⟨i, j, rfl, rfl, h⟩
theorem uMul_I {i j : Int} (hc : CMul i j) (h : Q (.int (i * j)) H) : uMul K (.int i) (.int j) H Q := .inl ⟨i, j, rfl, rfl, hc, h⟩
theorem uMul_L {a : Addr} {xs : List V} {k : Int} (ha : H a = some (.lst xs)) (h1 : -(2 ^ 63) ≤ k ∧ k < 2 ^ 63 ∧ xs.length * k.toNat ≤ sizeLine) (h : ∀ p H2, H p = none → Kp [] H H2 → H2 p = some (.lst (List.replicate k.toNat xs).flatten) → Q (.ref p) H2) : uMul K (.ref a) (.int k) H Q :=
  .inr ⟨a, k, xs, rfl, rfl, ha, h1.1, h1.2.1, h1.2.2, fun p n => h p _ n (Kp.new n) upd_same⟩
theorem uFdiv_I {i j : Int} (hc : CDiv i j) (h : Q (.int (i / j)) H) : uFdiv (.int i) (.int j) H Q := ⟨i, j, rfl, rfl, hc, h⟩
theorem uMod_I {i j : Int} (hc : 0 < j) (h : Q (.int (i % j)) H) : uMod (.int i) (.int j) H Q := ⟨i, j, rfl, rfl, hc, h⟩
theorem uPow_I {i j : Int} (hc : CPow i j) (h : Q (.int (i ^ j.toNat)) H) : uPow (.int i) (.int j) H Q := ⟨i, j, rfl, rfl, hc, h⟩
theorem uEq_I {i j : Int} (h : Q (.bl (decide (i = j))) H) : uEq K (.int i) (.int j) H Q := .inl ⟨rfl, by
  have e : decide (V.int i = V.int j) = decide (i = j) := by simp
  rw [e]; exact h⟩
theorem uEq_S {i j : Str} (h : Q (.bl (decide (i = j))) H) : uEq K (.str i) (.str j) H Q := .inl ⟨rfl, by
  have e : decide (V.str i = V.str j) = decide (i = j) := by simp
  rw [e]; exact h⟩
theorem uEq_B {i j : Bool} (h : Q (.bl (decide (i = j))) H) : uEq K (.bl i) (.bl j) H Q := .inl ⟨rfl, by
  have e : decide (V.bl i = V.bl j) = decide (i = j) := by simp
  rw [e]; exact h⟩
theorem uEq_D {d e : PyData} (h1 : Fp K H d x) (h2 : Fp K H e y) (s1 : SeqAt.shaped d = true) (s2 : SeqAt.shaped e = true) (h : Q (.bl (PyData.eqv d e)) H) : uEq K x y H Q := .inr ⟨d, e, Fp.dp _ _ h1, Fp.dp _ _ h2, s1, s2, h⟩
theorem uNe_I {i j : Int} (h : Q (.bl (!decide (i = j))) H) : uNe K (.int i) (.int j) H Q := .inl ⟨rfl, by
  have e : decide (V.int i = V.int j) = decide (i = j) := by simp
  rw [e]; exact h⟩
theorem uNe_S {i j : Str} (h : Q (.bl (!decide (i = j))) H) : uNe K (.str i) (.str j) H Q := .inl ⟨rfl, by
  have e : decide (V.str i = V.str j) = decide (i = j) := by simp
  rw [e]; exact h⟩
theorem uNe_B {i j : Bool} (h : Q (.bl (!decide (i = j))) H) : uNe K (.bl i) (.bl j) H Q := .inl ⟨rfl, by
  have e : decide (V.bl i = V.bl j) = decide (i = j) := by simp
  rw [e]; exact h⟩
theorem uNe_D {d e : PyData} (h1 : Fp K H d x) (h2 : Fp K H e y) (s1 : SeqAt.shaped d = true) (s2 : SeqAt.shaped e = true) (h : Q (.bl (!PyData.eqv d e)) H) : uNe K x y H Q := .inr ⟨d, e, Fp.dp _ _ h1, Fp.dp _ _ h2, s1, s2, h⟩
theorem uLt_I {i j : Int} (h : Q (.bl (decide (i < j))) H) : uLt (.int i) (.int j) H Q := ⟨i, j, rfl, rfl, h⟩
theorem uGt_I {i j : Int} (h : Q (.bl (decide (j < i))) H) : uGt (.int i) (.int j) H Q := ⟨i, j, rfl, rfl, h⟩
theorem uGe_I {i j : Int} (h : Q (.bl (decide (j ≤ i))) H) : uGe (.int i) (.int j) H Q := ⟨i, j, rfl, rfl, h⟩
theorem uLe_I {i j : Int} (h : Q (.bl (decide (i ≤ j))) H) : uLe (.int i) (.int j) H Q := .inl ⟨i, j, rfl, rfl, h⟩
theorem uIs_N (h : Q (.bl (decide (x = .non))) H) : uIs x .non H Q := ⟨rfl, h⟩
theorem uIsnt_N (h : Q (.bl (!decide (x = .non))) H) : uIsnt x .non H Q := ⟨rfl, h⟩
/-! ### subscripts -/
theorem u_ix {X : Cx} : IxR X (uIx X.K) := ix_seq
theorem uIx_L {a : Addr} {xs : List V} {i : Int} (hs : SqL K H a xs) (e : atI xs i = some v) (h : Q v H) : uIx K (.ref a) (.int i) H Q := .inl ⟨a, xs, i, v, rfl, rfl, hs, e, h⟩
theorem uIx_T {a : Addr} {xs : List V} {i : Int} (hs : SqT K H a xs) (e : atI xs i = some v) (h : Q v H) : uIx K (.ref a) (.int i) H Q := .inr (.inl ⟨a, xs, i, v, rfl, rfl, hs, e, h⟩)
theorem uIx_S {s : Str} {i : Int} {c : Nat} (hl : s.length ≤ sizeLine) (e : atI s.cps.toList i = some c) (h : Q (.str ⟨#[c]⟩) H) : uIx K (.str s) (.int i) H Q := .inr (.inr ⟨s, i, c, rfl, rfl, hl, e, h⟩)
/-! ### stores -/
def LSet (QS : L2.St → Hp → Prop) (σ : L2.St) (o i v : V) (H : Hp) : Prop := rSetL o i v H fun H3 => QS σ H3
theorem g_sub {to ti : TE} {QS : L2.St → Hp → Prop} (h : to σ H fun o H1 => ti σ H1 fun i H2 => LSet QS σ o i v H2) : gSub to ti rSetL v σ H QS := h
theorem g_setL {QS : L2.St → Hp → Prop} {a : Addr} {xs ys : List V} {k : Int} {j : Nat} (ha : H a = some (.lst xs)) (e : ixN xs.length k = some j) (ey : xs.set j v = ys) (h : ∀ H2, Kp [a] H H2 → H2 a = some (.lst ys) → QS σ H2) : LSet QS σ (.ref a) (.int k) v H := by
  subst ey
  exact ⟨a, xs, k, j, rfl, rfl, ha, e, h _ (Kp.mut ha (fun z => z)) upd_same⟩
end
end BL
namespace BL
open PySem PySem.Spec PyProof.Rows L2
/-! ### ways from heap to heap -/
inductive Tr : Hp → Hp → Prop
  | refl (H) : Tr H H
  | step {H H1 H2 M} : Tr H H1 → Kp M H1 H2 → Tr H H2
theorem Tr.fresh {H H' p} (t : Tr H H') (h : H' p = none) : H p = none := by
  induction t with
  | refl => exact h
  | step _ e ih => exact ih (e.fresh h)
def Tk (H : Hp) (a : Addr) : Prop := ∃ o, H a = some o
theorem Tk.kp {M H H' a} (e : Kp M H H') (h : Tk H a) : Tk H' a := let ⟨o, h⟩ := h; e.trk _ _ h
theorem ne_fr {H : Hp} {p q : Addr} (hp : H p = none) (hq : Tk H q) : q ≠ p := let ⟨_, h⟩ := hq; ne_of_none h hp
theorem Kp.stepN {M H0 H H'} (a : Kp M H0 H) (b : Kp [] H H') : Kp M H0 H' := a.step b fun _ h => nomatch h
theorem Kp.step1 {M p H0 H H'} (a : Kp M H0 H) (b : Kp [p] H H') (s : p ∈ M ∨ H0 p = none) : Kp M H0 H' := a.step b fun m h => by
  rw [List.mem_singleton.mp h]
  exact s
end BL
namespace BL
open PySem PySem.Spec PyProof.Rows L2
/-! ### defs as they are called -/
section
variable {P : Program} {w : World} {K : PySem.W.Frag} {mg : Str → Option Value} {base : Heap}
/-- the def at f keeps its promise sp at level k, called by position -/
structure Cal (P : Program) (w : World) (K : PySem.W.Frag) (mg : Str → Option Value) (base : Heap) (CX : CXT) (k : Nat) (f : Addr) (ps : List Str) (sp : Sp) : Prop where
  ex : ∃ fd, FnOk P w K mg base CX k f fd ps sp ∧ Binds K fd ps []
  kp : PySem.W.keepIn K (.ref f) = true
theorem Cal.mono {CX k j f ps sp} (C : Cal P w K mg base CX k f ps sp) (h : k ≤ j) : Cal P w K mg base CX j f ps sp := let ⟨fd, F, b⟩ := C.ex; ⟨⟨fd, F.mono h, b⟩, C.kp⟩
theorem Cal.imp {CX k f ps} {sp sp' : Sp} (C : Cal P w K mg base CX k f ps sp) (h : ∀ vs H Q E, sp' vs H Q E → sp vs H Q E) : Cal P w K mg base CX k f ps sp' := let ⟨fd, F, b⟩ := C.ex; ⟨⟨fd, F.imp h, b⟩, C.kp⟩
variable {X : Cx} {CX : CXT} {k : Nat} {f : Addr} {ps : List Str} {sp : Sp} {x : Str} {p pos : Pos} {e : Expr} {es : List Expr} {t : TA}
theorem pc_call (C : Cal X.prog X.w X.K X.mg X.base CX0 k f ps sp) (hr : Room k X.A) (hg : Gl X x) (hm : X.mg x = some (.ref f)) (ha : PA X (e :: es) t)
    (hdb : (x == ("__debug__" : Str)) = false := by decide +kernel) (he : starEach (e :: es) X.env = (false, eval e X.env) :: starEach es X.env := by rfl) (hpl : (backTo pos (starEach es X.env)).any (·.1) = false := by rfl) :
    PE X (.Call (.Name x p) (e :: es) [] pos) (tCall sp [] E0 t) := by
  obtain ⟨fd, F, b⟩ := C.ex
  exact pe_call F hr hg hm C.kp b .nil pass0 ha hdb he hpl
theorem pc_call0 (C : Cal X.prog X.w X.K X.mg X.base CX0 k f ps sp) (hr : Room k X.A) (hg : Gl X x) (hm : X.mg x = some (.ref f))
    (hdb : (x == ("__debug__" : Str)) = false := by decide +kernel) : PE X (.Call (.Name x p) [] [] pos) (tCall sp [] E0 tNil) := by
  obtain ⟨fd, F, b⟩ := C.ex
  exact pe_call0 F hr hg hm C.kp b .nil pass0 hdb
/-- THE RULE for a def that lets no exception out -/
theorem Cal.of {xn qual : Str} {params : Arguments} {body : List Stmt} {scope : Scope} {fd : FuncData} {N : List Str} (F : FunD K xn qual params body scope [] [] f fd) (b : Binds K fd ps []) (S : FnScope N ps scope)
    (len : ∀ vs H Q E, sp vs H Q E → vs.length = ps.length)
    (hbody : ∀ (cdv : Value) (A : Around) (outer : List Env) (s : Shared) (H : Hp) (vs : List V) (Q : VK) (E : XK), Room k (A.deeper (envOfC qual scope s.heap.objs.size f cdv)) → sp vs H Q E →
      ∃ t, PSs (cxOf CX0 P w K mg base N qual scope f cdv A outer s H E).nox body t ∧ t ⟨fun _ H' => Q .non H', Q, fun _ _ => False, fun _ _ => False⟩ (start N vs) H) : Cal P w K mg base CX0 (k + 1) f ps sp := by
  refine ⟨⟨fd, F.ok S len fun cdv A outer s H vs Q E hr hsp => ?_, b⟩, F.kp⟩
  obtain ⟨t, h, q⟩ := hbody cdv A outer s H vs Q E hr hsp
  exact ⟨t, h.nox, q⟩
theorem g_start {N : List Str} {vs : List V} {σ : L2.St} {H : Hp} {t : TS} {D : Ends} (e : start N vs = σ) (h : t D σ H) : t D (start N vs) H := by
  rw [e]
  exact h
end
end BL
namespace BL
open PySem PySem.Spec PyProof.Rows L2
/-! ### the pool of a law's draws -/
def big : Nat := 2 ^ 1048576
/-- a pool at p with the budget e -/
def PoolAt (K : PySem.W.Frag) (H : Hp) (p : Addr) (e : Int) : Prop :=
  ∃ (l : Addr) (ns : List Int) (a b c d : Int), H p = some (.lst [.ref l, .int a, .int b, .int c, .int d, .int e]) ∧ SqF K H l (ns.map V.int) ∧ ns.length ≤ 63 ∧ 0 ≤ a ∧ 0 ≤ c ∧ c < 2147483647
theorem PoolAt.k0 {K H H' p e} (s : Kp [] H H') (h : PoolAt K H p e) : PoolAt K H' p e := by
  obtain ⟨l, ns, a, b, c, d, h1, h2, h3⟩ := h
  exact ⟨l, ns, a, b, c, d, s.at0 h1, h2.kp s, h3⟩
theorem PoolAt.k1 {K H H' p q e} (s : Kp [q] H H') (n : p ≠ q) (h : PoolAt K H p e) : PoolAt K H' p e := by
  obtain ⟨l, ns, a, b, c, d, h1, h2, h3⟩ := h
  exact ⟨l, ns, a, b, c, d, s.at1 n h1, h2.kp s, h3⟩
theorem PoolAt.tk {K H p e} (h : PoolAt K H p e) : Tk H p := let ⟨_, _, _, _, _, _, h1, _⟩ := h; ⟨_, h1⟩
end BL
namespace BL
open PySem PySem.Spec PyProof.Rows L2
theorem cx_K {CX : CXT} {P : Program} {w : World} {K : PySem.W.Frag} {mg : Str → Option Value} {base : Heap} {N : List Str} {q : Str} {sc : Scope} {f : Addr} {cd : Value} {A : Around} {outer : List Env} {s : Shared} {H : Hp} {E : XK} : (cxOf CX P w K mg base N q sc f cd A outer s H E).nox.K = K := rfl
end BL
namespace BL
open PySem PySem.Spec PyProof.Rows L2
theorem atI_some {α : Type} {xs : List α} {i : Int} (h0 : 0 ≤ i) (h1 : i < xs.length) : ∃ v, atI xs i = some v ∧ v ∈ xs ∧ xs[i.toNat]? = some v := by
  obtain ⟨n, rfl⟩ := Int.eq_ofNat_of_zero_le h0
  have hn : n < xs.length := by omega
  exact ⟨xs[n], atI_nat (List.getElem?_eq_getElem hn), List.getElem_mem _, by simp [List.getElem?_eq_getElem hn]⟩
theorem uIx_LI {K : PySem.W.Frag} {H : Hp} {Q : VK} {l : Addr} {ns : List Int} {i : Int} (hs : SqL K H l (ns.map V.int)) (h0 : 0 ≤ i) (h1 : i < (ns.map V.int).length) (h : ∀ x, x ∈ ns → Q (.int x) H) : uIx K (.ref l) (.int i) H Q := by
  obtain ⟨v, e, m, _⟩ := atI_some h0 h1
  obtain ⟨x, hx, rfl⟩ := List.mem_map.mp m
  exact uIx_L hs e (h x hx)
end BL
namespace BL
open PySem PySem.Spec PyProof.Rows L2
theorem Tr.step' {H H1 H2 M} (b : Kp M H1 H2) (a : Tr H H1) : Tr H H2 := a.step b
theorem Tr.fresh' {H H' p} (h : H' p = none) (t : Tr H H') : H p = none := t.fresh h
theorem Kp.stepN' {M H0 H H'} (b : Kp [] H H') (a : Kp M H0 H) : Kp M H0 H' := a.stepN b
theorem Kp.step1' {M p H0 H H'} (b : Kp [p] H H') (s : p ∈ M ∨ H0 p = none) (a : Kp M H0 H) : Kp M H0 H' := a.step1 b s
end BL
namespace BL
open PySem PySem.Spec PyProof.Rows L2
section
variable {K : PySem.W.Frag} {H H' H0 H1 : Hp} {M : List Addr} {a b p q : Addr} {o : HO} {xs : List V} {v : V} {d : PyData} {ds : List PyData} {e : Int}
theorem lk_at0 (ed : Kp [] H H') (nx : H b = some o) : H' b = some o := ed.at0 nx
theorem lk_at1 (ed : Kp [p] H H') (ne : b ≠ p) (nx : H b = some o) : H' b = some o := ed.at1 ne nx
theorem lk_T (ed : Kp M H H') (nx : SqT K H a xs) : SqT K H' a xs := SqT.kp ed nx
theorem lk_T0 (nx : H a = some (.tup xs)) : SqT K H a xs := SqT.of nx
theorem lk_F (ed : Kp M H H') (nx : SqF K H a xs) : SqF K H' a xs := SqF.kp ed nx
theorem lk_LF (nx : SqF K H a xs) : SqL K H a xs := nx.l
theorem lk_L0 (nx : H a = some (.lst xs)) : SqL K H a xs := SqL.of nx
theorem lk_D (ed : Kp M H H') (nx : Fp K H d v) : Fp K H' d v := Fp.kp ed _ _ nx
theorem lk_Ds (ed : Kp M H H') (nx : FpL K H ds xs) : FpL K H' ds xs := FpL.kp ed _ _ nx
theorem lk_P0 (ed : Kp [] H H') (nx : PoolAt K H p e) : PoolAt K H' p e := nx.k0 ed
theorem lk_P1 (ed : Kp [q] H H') (ne : p ≠ q) (nx : PoolAt K H p e) : PoolAt K H' p e := nx.k1 ed ne
theorem lk_R (nx : H a = some o) : Rd H a o := .inl nx
theorem tk_0 (nx : H a = some o) : Tk H a := ⟨o, nx⟩
theorem tk_1 (ed : Kp M H H') (nx : Tk H a) : Tk H' a := nx.kp ed
theorem tk_P (nx : PoolAt K H a e) : Tk H a := nx.tk
theorem tr_1 (ed : Kp M H1 H') (nx : Tr H H1) : Tr H H' := nx.step ed
theorem fr_1 (fr : H' p = none) (nx : Tr H H') : H p = none := nx.fresh fr
theorem kp_0 (ed : Kp [] H H') (nx : Kp M H0 H) : Kp M H0 H' := nx.stepN ed
theorem kp_1 (ed : Kp [p] H H') (fr : p ∈ M ∨ H0 p = none) (nx : Kp M H0 H) : Kp M H0 H' := nx.step1 ed fr
theorem ne_1 (fr : H p = none) (nx : Tk H q) : q ≠ p := ne_fr fr nx
theorem ne_2 (fr : H p = none) (nx : Tk H q) : p ≠ q := (ne_fr fr nx).symm
theorem ne_s (nx : q ≠ p) : p ≠ q := nx.symm
end
end BL
namespace BL
open PySem PySem.Spec PyProof.Rows L2
section
variable {K : PySem.W.Frag} {σ : L2.St} {H : Hp} {tt tu : TT} {te : TE} {nx bk ct : L2.St → Hp → Prop} {rt : VK} {t u : TS} {v : V} {a b : Bool}
theorem g_ifA (hA : Ans (tAnd tt tu) σ H b) (h1 : b = true → t ⟨nx, rt, bk, ct⟩ σ H) (h2 : b = false → u ⟨nx, rt, bk, ct⟩ σ H) : tIfS (tAnd tt tu) t u ⟨nx, rt, bk, ct⟩ σ H := g_ifV hA h1 h2
theorem g_ifO (hA : Ans (tOr tt tu) σ H b) (h1 : b = true → t ⟨nx, rt, bk, ct⟩ σ H) (h2 : b = false → u ⟨nx, rt, bk, ct⟩ σ H) : tIfS (tOr tt tu) t u ⟨nx, rt, bk, ct⟩ σ H := g_ifV hA h1 h2
theorem an_t (hV : Val te σ H (.bl b)) : Ans (tTest te) σ H b := a_test hV
theorem an_b (hV : Val te σ H (.bl b)) : Ans (tB te) σ H b := a_tB hV
theorem an_tr (hV : Val te σ H (.bl b)) : Ans (tTr K te) σ H b := fun Q q => hV _ ⟨b, rfl, q⟩
theorem an_gen (h : ∀ QB : Bool → Hp → Prop, QB b H → tt σ H QB) : Ans tt σ H b := h
theorem ba_t {a b : Bool} : (a && b) = true ↔ a = true ∧ b = true := Bool.and_eq_true_iff
theorem ba_f {a b : Bool} : (a && b) = false ↔ ¬ (a = true ∧ b = true) := by cases a <;> cases b <;> simp
theorem bo_t {a b : Bool} : (a || b) = true ↔ a = true ∨ b = true := Bool.or_eq_true_iff
theorem bo_f {a b : Bool} : (a || b) = false ↔ ¬ (a = true ∨ b = true) := by cases a <;> cases b <;> simp
theorem bn_t {a : Bool} : (!a) = true ↔ ¬ a = true := by cases a <;> simp
theorem bn_f {a : Bool} : (!a) = false ↔ a = true := by cases a <;> simp
theorem bd_t {p : Prop} [Decidable p] : decide p = true ↔ p := decide_eq_true_iff
theorem bd_f {p : Prop} [Decidable p] : decide p = false ↔ ¬ p := decide_eq_false_iff_not
theorem bt_t : (true = true) ↔ True := by simp
theorem bf_t : (false = true) ↔ False := by simp
end
end BL
namespace BL
open PySem PySem.Spec PyProof.Rows L2
section
variable {K : PySem.W.Frag} {σ : L2.St} {H : Hp} {Q : VK} {tA : TA} {te : TE} {tb : TS} {g : TG} {nx bk ct : L2.St → Hp → Prop} {rt : VK} {v x : V} {a : Addr} {xs : List V}
/-! ### for -/
def ForB (J : It) (g : TG) (tb : TS) (nx : L2.St → Hp → Prop) (rt : VK) (σ : L2.St) (H : Hp) : Prop :=
  ∃ W : Nat → Nat → L2.St → Hp → Prop, (∃ m, W 0 m σ H) ∧ ∀ i m σ H, W i m σ H →
    (J.stop i H ∧ nx σ H) ∨ (J.go i H ∧ ∃ N : L2.St → Hp → Prop, (∀ σ' H', N σ' H' → ∃ m', m' < m ∧ W (i + 1) m' σ' H') ∧ ∀ x H', J.yld i H x H' → g x σ H' fun σ2 H2 => tb ⟨N, rt, nx, N⟩ σ2 H2)
def LForR (g : TG) (tb : TS) (nx : L2.St → Hp → Prop) (rt : VK) (σ : L2.St) (vs : List V) (H : Hp) : Prop := ∃ j : Int, vs = [.int j] ∧ -(2 ^ 62) ≤ j ∧ j < 2 ^ 62 ∧ ForB (Itr 0 j.toNat) g tb nx rt σ H
def LForR2 (g : TG) (tb : TS) (nx : L2.St → Hp → Prop) (rt : VK) (σ : L2.St) (vs : List V) (H : Hp) : Prop := ∃ i j : Int, vs = [.int i, .int j] ∧ (-(2 ^ 62) ≤ i ∧ i < 2 ^ 62 ∧ -(2 ^ 62) ≤ j ∧ j < 2 ^ 62) ∧ ForB (Itr i (j - i).toNat) g tb nx rt σ H
def LForL (K : PySem.W.Frag) (g : TG) (tb : TS) (nx : L2.St → Hp → Prop) (rt : VK) (σ : L2.St) (x : V) (H : Hp) : Prop := ∃ a, x = .ref a ∧ (∃ xs, SqL K H a xs) ∧ ForB (Itl K a) g tb nx rt σ H
def LForT (K : PySem.W.Frag) (g : TG) (tb : TS) (nx : L2.St → Hp → Prop) (rt : VK) (σ : L2.St) (x : V) (H : Hp) : Prop := ∃ a, x = .ref a ∧ (∃ xs, SqT K H a xs) ∧ ForB (Itt K a) g tb nx rt σ H
theorem g_rng (h : tA σ H fun vs H1 => LForR g tb nx rt σ vs H1) : tFor (iRng1 tA) g tb ⟨nx, rt, bk, ct⟩ σ H := h
theorem g_rng2 (h : tA σ H fun vs H1 => LForR2 g tb nx rt σ vs H1) : tFor (iRng2 tA) g tb ⟨nx, rt, bk, ct⟩ σ H := h
theorem g_fl (h : te σ H fun x H1 => LForL K g tb nx rt σ x H1) : tFor (iList K te) g tb ⟨nx, rt, bk, ct⟩ σ H := h
theorem g_ft (h : te σ H fun x H1 => LForT K g tb nx rt σ x H1) : tFor (iTup K te) g tb ⟨nx, rt, bk, ct⟩ σ H := h
theorem g_forR {n : Int} (hb : -(2 ^ 62) ≤ n ∧ n < 2 ^ 62) (Pv : Nat → L2.St → Hp → Prop) (h0 : Pv 0 σ H)
    (hs : ∀ (i : Nat) σ H, (i : Int) < n → Pv i σ H → g (.int i) σ H fun σ2 H2 => tb ⟨Pv (i + 1), rt, nx, Pv (i + 1)⟩ σ2 H2)
    (hd : ∀ σ H, Pv n.toNat σ H → nx σ H) : LForR g tb nx rt σ [.int n] H := by
  refine ⟨n, rfl, hb.1, hb.2, ?_⟩
  refine for_range (lo := 0) (n := n.toNat) (D := ⟨nx, rt, fun _ _ => False, fun _ _ => False⟩) Pv h0 (fun i σ H hi p => ?_) hd
  rw [Int.zero_add]
  exact hs i σ H (by omega) p
theorem g_forR2 {lo n : Int} (hb : -(2 ^ 62) ≤ lo ∧ lo < 2 ^ 62 ∧ -(2 ^ 62) ≤ n ∧ n < 2 ^ 62) (Pv : Nat → L2.St → Hp → Prop) (h0 : Pv 0 σ H)
    (hs : ∀ (i : Nat) σ H, lo + (i : Int) < n → Pv i σ H → g (.int (lo + i)) σ H fun σ2 H2 => tb ⟨Pv (i + 1), rt, nx, Pv (i + 1)⟩ σ2 H2)
    (hd : ∀ σ H, Pv (n - lo).toNat σ H → nx σ H) : LForR2 g tb nx rt σ [.int lo, .int n] H := by
  refine ⟨lo, n, rfl, hb, ?_⟩
  refine for_range (lo := lo) (n := (n - lo).toNat) (D := ⟨nx, rt, fun _ _ => False, fun _ _ => False⟩) Pv h0 (fun i σ H hi p => ?_) hd
  exact hs i σ H (by omega) p
theorem g_forL (hx : SqL K H a xs) (Pv : Nat → L2.St → Hp → Prop) (h0 : Pv 0 σ H) (hl : ∀ i σ' H', i ≤ xs.length → Pv i σ' H' → SqL K H' a xs)
    (hs : ∀ i x σ H, xs[i]? = some x → Pv i σ H → g x σ H fun σ2 H2 => tb ⟨Pv (i + 1), rt, nx, Pv (i + 1)⟩ σ2 H2) (hd : ∀ σ H, Pv xs.length σ H → nx σ H) : LForL K g tb nx rt σ (.ref a) H :=
  ⟨a, rfl, ⟨xs, hx⟩, for_list (K := K) (a := a) (xs := xs) (D := ⟨nx, rt, fun _ _ => False, fun _ _ => False⟩) Pv h0 hl hs hd⟩
theorem g_forT (hx : SqT K H a xs) (Pv : Nat → L2.St → Hp → Prop) (h0 : Pv 0 σ H) (hl : ∀ i σ' H', i ≤ xs.length → Pv i σ' H' → SqT K H' a xs)
    (hs : ∀ i x σ H, xs[i]? = some x → Pv i σ H → g x σ H fun σ2 H2 => tb ⟨Pv (i + 1), rt, nx, Pv (i + 1)⟩ σ2 H2) (hd : ∀ σ H, Pv xs.length σ H → nx σ H) : LForT K g tb nx rt σ (.ref a) H :=
  ⟨a, rfl, ⟨xs, hx⟩, for_tup (K := K) (a := a) (xs := xs) (D := ⟨nx, rt, fun _ _ => False, fun _ _ => False⟩) Pv h0 hl hs hd⟩
/-! ### items by membership -/
theorem uIx_TM {i : Int} (hs : SqT K H a xs) (h0 : 0 ≤ i) (h1 : i < xs.length) (h : ∀ x, x ∈ xs → Q x H) : uIx K (.ref a) (.int i) H Q := by
  obtain ⟨v, e, m, _⟩ := atI_some h0 h1
  exact uIx_T hs e (h v m)
theorem uIx_LM {i : Int} (hs : SqL K H a xs) (h0 : 0 ≤ i) (h1 : i < xs.length) (h : ∀ x, x ∈ xs → Q x H) : uIx K (.ref a) (.int i) H Q := by
  obtain ⟨v, e, m, _⟩ := atI_some h0 h1
  exact uIx_L hs e (h v m)
/-! ### data at an index -/
theorem uIx_TD {i : Int} {ds : List PyData} (hs : SqT K H a xs) (hd : FpL K H ds xs) (h0 : 0 ≤ i) (h1 : i < ds.length) (h : ∀ v d, ds[i.toNat]? = some d → Fp K H d v → Q v H) : uIx K (.ref a) (.int i) H Q := by
  have e1 := FpL.len hd
  obtain ⟨v, e, m, e2⟩ := atI_some (xs := xs) h0 (by omega)
  have h2 : i.toNat < ds.length := by omega
  obtain ⟨u, h3, h4⟩ := FpL.get hd (List.getElem?_eq_getElem h2)
  rw [e2] at h3
  cases h3
  exact uIx_T hs e (h v _ (List.getElem?_eq_getElem h2) h4)
theorem uIx_LD {i : Int} {ds : List PyData} (hs : SqL K H a xs) (hd : FpL K H ds xs) (h0 : 0 ≤ i) (h1 : i < ds.length) (h : ∀ v d, ds[i.toNat]? = some d → Fp K H d v → Q v H) : uIx K (.ref a) (.int i) H Q := by
  have e1 := FpL.len hd
  obtain ⟨v, e, m, e2⟩ := atI_some (xs := xs) h0 (by omega)
  have h2 : i.toNat < ds.length := by omega
  obtain ⟨u, h3, h4⟩ := FpL.get hd (List.getElem?_eq_getElem h2)
  rw [e2] at h3
  cases h3
  exact uIx_L hs e (h v _ (List.getElem?_eq_getElem h2) h4)
theorem uEq_St {i j : Str} (e : i = j) (h : Q (.bl true) H) : uEq K (.str i) (.str j) H Q := uEq_S (by rw [decide_eq_true e]; exact h)
theorem uEq_Sf {i j : Str} (e : ¬ i = j) (h : Q (.bl false) H) : uEq K (.str i) (.str j) H Q := uEq_S (by rw [decide_eq_false e]; exact h)
theorem uNe_St {i j : Str} (e : i = j) (h : Q (.bl false) H) : uNe K (.str i) (.str j) H Q := uNe_S (by rw [decide_eq_true e]; exact h)
theorem uNe_Sf {i j : Str} (e : ¬ i = j) (h : Q (.bl true) H) : uNe K (.str i) (.str j) H Q := uNe_S (by rw [decide_eq_false e]; exact h)
theorem uIs_R {a : Addr} (h : Q (.bl false) H) : uIs (.ref a) .non H Q := ⟨rfl, h⟩
theorem uIs_I {i : Int} (h : Q (.bl false) H) : uIs (.int i) .non H Q := ⟨rfl, h⟩
theorem uIs_S {s : Str} (h : Q (.bl false) H) : uIs (.str s) .non H Q := ⟨rfl, h⟩
theorem uIs_B {b : Bool} (h : Q (.bl false) H) : uIs (.bl b) .non H Q := ⟨rfl, h⟩
theorem uIs_NN (h : Q (.bl true) H) : uIs .non .non H Q := ⟨rfl, h⟩
theorem uIsnt_R {a : Addr} (h : Q (.bl true) H) : uIsnt (.ref a) .non H Q := ⟨rfl, h⟩
theorem uIsnt_I {i : Int} (h : Q (.bl true) H) : uIsnt (.int i) .non H Q := ⟨rfl, h⟩
theorem uIsnt_S {s : Str} (h : Q (.bl true) H) : uIsnt (.str s) .non H Q := ⟨rfl, h⟩
theorem uIsnt_B {b : Bool} (h : Q (.bl true) H) : uIsnt (.bl b) .non H Q := ⟨rfl, h⟩
theorem uIsnt_NN (h : Q (.bl false) H) : uIsnt .non .non H Q := ⟨rfl, h⟩
end
end BL
namespace BL
open PySem PySem.Spec PyProof.Rows L2
theorem Cal.zero {P : Program} {w : World} {K : PySem.W.Frag} {mg : Str → Option Value} {base : Heap} {CX : CXT} {f : Addr} {fd : FuncData} {ps : List Str} {sp : Sp} (b : Binds K fd ps []) (kp : PySem.W.keepIn K (.ref f) = true) (h : ∀ vs H Q E, ¬ sp vs H Q E) : Cal P w K mg base CX 0 f ps sp :=
  ⟨⟨fd, ⟨fun vs H Q E q => (h vs H Q E q).elim, fun A outer s H args us vs Q E _ _ _ _ q => (h vs H Q E q).elim⟩, b⟩, kp⟩
end BL
namespace BL
open PySem PySem.Spec PyProof.Rows L2
def isTb (n : String) (d : PyData) : Bool := (isT n d).getD false
def tyKn (n : String) : Bool := n == "tuple" || n == "list" || n == "bool" || n == "int" || n == "str"
theorem isTb_ok {K : PySem.W.Frag} {H : Hp} {n : String} {d : PyData} {v : V} (h : Fp K H d v) (hn : tyKn n = true) : isT n d = some (isTb n d) := by
  simp only [tyKn, Bool.or_eq_true, beq_iff_eq] at hn
  rcases hn with (((rfl | rfl) | rfl) | rfl) | rfl <;> cases d <;> first | rfl | (simp only [Fp] at h)
theorem uIsi_A {K : PySem.W.Frag} {H : Hp} {Q : VK} {v : V} {d : PyData} {n : String} (hd : Fp K H d v) (hn : tyKn n = true) (h : Q (.bl (isTb n d)) H) : uIsi K [v, .ty n] H Q := uIsi_D hd (isTb_ok hd hn) h
end BL
namespace BL
open PySem PySem.Spec PyProof.Rows L2
theorem Fn.of {P : Program} {w : World} {K : PySem.W.Frag} {mg : Str → Option Value} {base : Heap} {k : Nat} {f : Addr} {ps : List Str} {sp : Sp} {xn qual : Str} {params : Arguments} {body : List Stmt} {scope : Scope} {fd : FuncData} {N : List Str} (F : FunD K xn qual params body scope [] [] f fd) (S : FnScope N ps scope)
    (len : ∀ vs H Q E, sp vs H Q E → vs.length = ps.length)
    (hbody : ∀ (cdv : Value) (A : Around) (outer : List Env) (s : Shared) (H : Hp) (vs : List V) (Q : VK) (E : XK), Room k (A.deeper (envOfC qual scope s.heap.objs.size f cdv)) → sp vs H Q E →
      ∃ t, PSs (cxOf CX0 P w K mg base N qual scope f cdv A outer s H E).nox body t ∧ t ⟨fun _ H' => Q .non H', Q, fun _ _ => False, fun _ _ => False⟩ (start N vs) H) : FnOk P w K mg base CX0 (k + 1) f fd ps sp := by
  refine F.ok S len fun cdv A outer s H vs Q E hr hsp => ?_
  obtain ⟨t, h, q⟩ := hbody cdv A outer s H vs Q E hr hsp
  exact ⟨t, h.nox, q⟩
theorem only_frz {K H a xs} (o : Only H) (h : SqL K H a xs) : SqF K H a xs := by
  rcases h with (h | ⟨u, h⟩) | h
  · rcases o a with z | ⟨u, ys, z⟩
    · rw [h] at z; cases z
    · rw [h] at z; cases z
  · exact .inl ⟨u, h⟩
  · exact .inr h
end BL

set_option Elab.async false
set_option linter.all false
set_option maxRecDepth 100000
set_option maxHeartbeats 2000000
/-! ## The mathematics: what the program computes, in plain Lean (own text) -/
namespace BL
open PySem PySem.Spec PyProof.Rows L2
/-! ### data -/
mutual
def dsame : PyData → PyData → Bool
  | .none, .none => true
  | .bool a, .bool b => decide (a = b)
  | .int a, .int b => decide (a = b)
  | .str a, .str b => decide (a = b)
  | .list as, .list bs => dsameL as bs
  | .tuple as, .tuple bs => dsameL as bs
  | _, _ => false
def dsameL : List PyData → List PyData → Bool
  | [], [] => true
  | a :: as, b :: bs => dsame a b && dsameL as bs
  | _, _ => false
end
mutual
/-- no dict within -/
def plain : PyData → Bool
  | .dict _ => false
  | .list ds => plainL ds
  | .tuple ds => plainL ds
  | _ => true
def plainL : List PyData → Bool
  | [] => true
  | d :: ds => plain d && plainL ds
end
mutual
def dep : PyData → Nat
  | .list ds => depL ds + 1
  | .tuple ds => depL ds + 1
  | _ => 0
def depL : List PyData → Nat
  | [] => 0
  | d :: ds => max (dep d) (depL ds)
end
mutual
theorem dsame_refl : ∀ d : PyData, plain d = true → dsame d d = true
  | .none, _ => rfl
  | .bool _, _ => by simp [dsame]
  | .int _, _ => by simp [dsame]
  | .str _, _ => by simp [dsame]
  | .list ds, h => by simp only [dsame]; exact dsameL_refl ds (by simpa [plain] using h)
  | .tuple ds, h => by simp only [dsame]; exact dsameL_refl ds (by simpa [plain] using h)
  | .dict _, h => by simp [plain] at h
theorem dsameL_refl : ∀ ds : List PyData, plainL ds = true → dsameL ds ds = true
  | [], _ => rfl
  | d :: ds, h => by
    simp only [plainL, Bool.and_eq_true] at h
    simp only [dsameL, Bool.and_eq_true]
    exact ⟨dsame_refl d h.1, dsameL_refl ds h.2⟩
end
mutual
theorem dsame_eq : ∀ a b : PyData, dsame a b = true → a = b
  | .none, b, h => by cases b <;> simp [dsame] at h ⊢
  | .bool _, b, h => by cases b <;> simp [dsame] at h ⊢; exact h
  | .int _, b, h => by cases b <;> simp [dsame] at h ⊢; exact h
  | .str _, b, h => by cases b <;> simp [dsame] at h ⊢; exact h
  | .list as, b, h => by
    cases b with
    | list bs => simp only [dsame] at h; rw [dsameL_eq as bs h]
    | _ => simp [dsame] at h
  | .tuple as, b, h => by
    cases b with
    | tuple bs => simp only [dsame] at h; rw [dsameL_eq as bs h]
    | _ => simp [dsame] at h
  | .dict _, b, h => by cases b <;> simp [dsame] at h
theorem dsameL_eq : ∀ as bs : List PyData, dsameL as bs = true → as = bs
  | [], [], _ => rfl
  | [], _ :: _, h => by simp [dsameL] at h
  | _ :: _, [], h => by simp [dsameL] at h
  | a :: as, b :: bs, h => by
    simp only [dsameL, Bool.and_eq_true] at h
    rw [dsame_eq a b h.1, dsameL_eq as bs h.2]
end
theorem dsameL_take : ∀ (as bs : List PyData) (n : Nat), as.length = bs.length → n ≤ as.length → (dsameL as bs = true ↔ (dsameL (as.take n) (bs.take n) = true ∧ dsameL (as.drop n) (bs.drop n) = true))
  | _, _, 0, _, _ => by simp [dsameL]
  | [], [], n + 1, _, h => by simp at h
  | [], _ :: _, _ + 1, h, _ => by simp at h
  | _ :: _, [], _ + 1, h, _ => by simp at h
  | a :: as, b :: bs, n + 1, h, hn => by
    simp only [List.take_succ_cons, List.drop_succ_cons, dsameL, Bool.and_eq_true]
    rw [dsameL_take as bs n (by simpa using h) (by simpa using hn)]
    constructor
    · rintro ⟨a, b, c⟩; exact ⟨⟨a, b⟩, c⟩
    · rintro ⟨⟨a, b⟩, c⟩; exact ⟨a, b, c⟩
theorem dsameL_get {as bs : List PyData} (h : dsameL as bs = true) {i : Nat} {a b : PyData} (ha : as[i]? = some a) (hb : bs[i]? = some b) : dsame a b = true := by
  have e := dsameL_eq as bs h
  subst e
  rw [ha] at hb
  cases hb
  induction as generalizing i with
  | nil => simp at ha
  | cons c as ih =>
    simp only [dsameL, Bool.and_eq_true] at h
    cases i with
    | zero => simp at ha; subst ha; exact h.1
    | succ i => exact ih (by simpa using ha) h.2
theorem dsameL_all : ∀ {as bs : List PyData}, as.length = bs.length → (∀ (i : Nat) (a b : PyData), as[i]? = some a → bs[i]? = some b → dsame a b = true) → dsameL as bs = true
  | [], [], _, _ => rfl
  | [], _ :: _, h, _ => by simp at h
  | _ :: _, [], h, _ => by simp at h
  | a :: as, b :: bs, h, f => by
    simp only [dsameL, Bool.and_eq_true]
    exact ⟨f 0 a b rfl rfl, dsameL_all (by simpa using h) fun i x y hx hy => f (i + 1) x y (by simpa using hx) (by simpa using hy)⟩
theorem dep_get : ∀ {ds : List PyData} {i : Nat} {d : PyData} {n : Nat}, depL ds ≤ n → ds[i]? = some d → dep d ≤ n
  | [], _, _, _, _, h => by simp at h
  | c :: ds, 0, d, n, h, e => by
    simp only [depL] at h
    simp at e
    subst e
    omega
  | c :: ds, i + 1, d, n, h, e => by
    simp only [depL] at h
    exact dep_get (ds := ds) (i := i) (by omega) (by simpa using e)
theorem plain_get : ∀ {ds : List PyData} {i : Nat} {d : PyData}, plainL ds = true → ds[i]? = some d → plain d = true
  | [], _, _, _, h => by simp at h
  | c :: ds, 0, d, h, e => by
    simp only [plainL, Bool.and_eq_true] at h
    simp at e
    subst e
    exact h.1
  | c :: ds, i + 1, d, h, e => by
    simp only [plainL, Bool.and_eq_true] at h
    exact plain_get (ds := ds) (i := i) h.2 (by simpa using e)
/-! ### the operators -/
inductive Sgn where
  | add | sub | mul | div | mod | lt | eq
  deriving DecidableEq
def Sgn.str : Sgn → Str
  | .add => "+"
  | .sub => "-"
  | .mul => "*"
  | .div => "/"
  | .mod => "mod"
  | .lt => "<"
  | .eq => "="
/-- the value of an operator on two words -/
def Sgn.app : Sgn → Int → Int → Int
  | .add, a, b => (a + b) % 65536
  | .sub, a, b => (a - b) % 65536
  | .mul, a, b => a * b % 65536
  | .div, a, b => if 0 < b then a / b else 0
  | .mod, a, b => if 0 < b then a % b else 0
  | .lt, a, b => if a < b then 1 else 0
  | .eq, a, b => if a = b then 1 else 0
/-- a machine word -/
def Wd (a : Int) : Prop := 0 ≤ a ∧ a < 65536
theorem Sgn.wd (s : Sgn) {a b : Int} (ha : Wd a) (hb : Wd b) : Wd (s.app a b) := by
  obtain ⟨a0, a1⟩ := ha
  obtain ⟨b0, b1⟩ := hb
  cases s <;> simp only [Sgn.app, Wd]
  · omega
  · omega
  · exact ⟨Int.emod_nonneg _ (by omega), Int.emod_lt_of_pos _ (by omega)⟩
  · split
    · rename_i h
      exact ⟨Int.ediv_nonneg a0 b0, by have := Int.ediv_le_self b a0; omega⟩
    · omega
  · split
    · rename_i h
      exact ⟨Int.emod_nonneg _ (by omega), by have := Int.emod_lt_of_pos a h; omega⟩
    · omega
  · split <;> omega
  · split <;> omega
end BL
namespace BL
open PySem PySem.Spec PyProof.Rows L2
theorem q_int {Q : VK} {H : Hp} {a b : Int} (k : Q (.int b) H) (h : a = b) : Q (.int a) H := h ▸ k
theorem q_bl {Q : VK} {H : Hp} {a b : Bool} (k : Q (.bl b) H) (h : a = b) : Q (.bl a) H := h ▸ k
theorem q_v {Q : VK} {H : Hp} {a b : V} (k : Q b H) (h : a = b) : Q a H := h ▸ k
mutual
/-- every list and tuple within is short -/
def small : PyData → Bool
  | .list ds => decide (ds.length ≤ 100000) && smallL ds
  | .tuple ds => decide (ds.length ≤ 100000) && smallL ds
  | .dict _ => false
  | _ => true
def smallL : List PyData → Bool
  | [] => true
  | d :: ds => small d && smallL ds
end
theorem small_get : ∀ {ds : List PyData} {i : Nat} {d : PyData}, smallL ds = true → ds[i]? = some d → small d = true
  | [], _, _, _, h => by simp at h
  | c :: ds, 0, d, h, e => by
    simp only [smallL, Bool.and_eq_true] at h
    simp at e
    subst e
    exact h.1
  | c :: ds, i + 1, d, h, e => by
    simp only [smallL, Bool.and_eq_true] at h
    exact small_get (ds := ds) (i := i) h.2 (by simpa using e)
theorem Fp.small_dict {K H a x} (h : Fp K H a x) : (∀ l, a ≠ .dict l) := by
  intro l e
  subst e
  simp only [Fp] at h
end BL
namespace BL
open PySem PySem.Spec PyProof.Rows L2
theorem sgn_mem {x : V} (h : x ∈ [V.str "+", V.str "-", V.str "*", V.str "/", V.str "mod", V.str "<", V.str "="]) : ∃ s : Sgn, x = .str s.str := by
  simp only [List.mem_cons, List.not_mem_nil, or_false] at h
  rcases h with h | h | h | h | h | h | h
  · exact ⟨.add, h⟩
  · exact ⟨.sub, h⟩
  · exact ⟨.mul, h⟩
  · exact ⟨.div, h⟩
  · exact ⟨.mod, h⟩
  · exact ⟨.lt, h⟩
  · exact ⟨.eq, h⟩
theorem Fp.i {K H} (i : Int) : Fp K H (.int i) (.int i) := by simp only [Fp]
theorem Fp.s {K H} (i : Str) : Fp K H (.str i) (.str i) := by simp only [Fp]
theorem Fp.b {K H} (i : Bool) : Fp K H (.bool i) (.bl i) := by simp only [Fp]
theorem Fp.n {K H} : Fp K H .none .non := by simp only [Fp]
end BL

set_option Elab.async false
set_option linter.all false
set_option maxRecDepth 4000
set_option maxHeartbeats 0

namespace BX
open PySem PySem.Spec PyProof.Rows L2 He BL
def top (i : Nat) : Stmt := PySem.Challenge.pw_blameless_k00_operators_on_words.main.body.getD i (.Pass ⟨0, 0, 0, 0⟩)
abbrev s_combine : Stmt := top 2
def d_combine : He.DefD := ⟨("combine", none), "combine", "combine", defArgs s_combine, defBody s_combine, defScope s_combine, [], []⟩
abbrev s_law_pool : Stmt := top 4
def d_law_pool : He.DefD := ⟨("_law_pool", none), "_law_pool", "_law_pool", defArgs s_law_pool, defBody s_law_pool, defScope s_law_pool, [], []⟩
abbrev s_law_draw : Stmt := top 5
def d_law_draw : He.DefD := ⟨("_law_draw", none), "_law_draw", "_law_draw", defArgs s_law_draw, defBody s_law_draw, defScope s_law_draw, [], []⟩
abbrev s_law_spend : Stmt := top 6
def d_law_spend : He.DefD := ⟨("_law_spend", none), "_law_spend", "_law_spend", defArgs s_law_spend, defBody s_law_spend, defScope s_law_spend, [], []⟩
abbrev s_law_few : Stmt := top 7
def d_law_few : He.DefD := ⟨("_law_few", none), "_law_few", "_law_few", defArgs s_law_few, defBody s_law_few, defScope s_law_few, [], []⟩
abbrev s_law_number : Stmt := top 8
def d_law_number : He.DefD := ⟨("_law_number", none), "_law_number", "_law_number", defArgs s_law_number, defBody s_law_number, defScope s_law_number, [], []⟩
abbrev s_law_same : Stmt := top 9
def d_law_same : He.DefD := ⟨("_law_same", none), "_law_same", "_law_same", defArgs s_law_same, defBody s_law_same, defScope s_law_same, [], []⟩
abbrev s_law_combine : Stmt := top 10
def d_law_combine : He.DefD := ⟨("_law_combine", none), "_law_combine", "_law_combine", defArgs s_law_combine, defBody s_law_combine, defScope s_law_combine, [], []⟩
abbrev s_law : Stmt := top 11
def d_law : He.DefD := ⟨("law", none), "law", "law", defArgs s_law, defBody s_law, defScope s_law, [], []⟩
def fn : List He.DefD := [d_combine, d_law_pool, d_law_draw, d_law_spend, d_law_few, d_law_number, d_law_same, d_law_combine, d_law]
def qs : BH.Qs := [(Fa.glo "combine").ok,
  (Fa.glo "_law_pool").ok,
  (Fa.glo "_law_draw").ok,
  (Fa.glo "_law_spend").ok,
  (Fa.glo "_law_few").ok,
  (Fa.glo "_law_number").ok,
  (Fa.glo "_law_same").ok,
  (Fa.glo "_law_combine").ok,
  (Fa.glo "law").ok,
  (Fa.free "int").ok,
  (Fa.free "min").ok,
  (Fa.free "isinstance").ok,
  (Fa.free "range").ok,
  (Fa.free "list").ok,
  (Fa.free "tuple").ok,
  (Fa.free "bool").ok,
  (Fa.free "str").ok,
  (Fa.free "len").ok,
  (Fa.int "MODULUS" (65536)).ok]
structure Tx (K : PySem.W.Frag) (mg : Str → Option Value) : Prop where
  ex : ∃ h : Heap, K.In h ∧ h.Ns mainGlobals mg
  c : BH.SaysX qs fn K
section
variable {K : PySem.W.Frag} {mg : Str → Option Value}
theorem Tx.g_combine (T : Tx K mg) : mg "combine" = some (.ref (ga K "combine")) := let ⟨_, X, G⟩ := T.ex; He.glo_ok X G (T.c.fact 0 rfl)
theorem Tx.g__law_pool (T : Tx K mg) : mg "_law_pool" = some (.ref (ga K "_law_pool")) := let ⟨_, X, G⟩ := T.ex; He.glo_ok X G (T.c.fact 1 rfl)
theorem Tx.g__law_draw (T : Tx K mg) : mg "_law_draw" = some (.ref (ga K "_law_draw")) := let ⟨_, X, G⟩ := T.ex; He.glo_ok X G (T.c.fact 2 rfl)
theorem Tx.g__law_spend (T : Tx K mg) : mg "_law_spend" = some (.ref (ga K "_law_spend")) := let ⟨_, X, G⟩ := T.ex; He.glo_ok X G (T.c.fact 3 rfl)
theorem Tx.g__law_few (T : Tx K mg) : mg "_law_few" = some (.ref (ga K "_law_few")) := let ⟨_, X, G⟩ := T.ex; He.glo_ok X G (T.c.fact 4 rfl)
theorem Tx.g__law_number (T : Tx K mg) : mg "_law_number" = some (.ref (ga K "_law_number")) := let ⟨_, X, G⟩ := T.ex; He.glo_ok X G (T.c.fact 5 rfl)
theorem Tx.g__law_same (T : Tx K mg) : mg "_law_same" = some (.ref (ga K "_law_same")) := let ⟨_, X, G⟩ := T.ex; He.glo_ok X G (T.c.fact 6 rfl)
theorem Tx.g__law_combine (T : Tx K mg) : mg "_law_combine" = some (.ref (ga K "_law_combine")) := let ⟨_, X, G⟩ := T.ex; He.glo_ok X G (T.c.fact 7 rfl)
theorem Tx.g_law (T : Tx K mg) : mg "law" = some (.ref (ga K "law")) := let ⟨_, X, G⟩ := T.ex; He.glo_ok X G (T.c.fact 8 rfl)
theorem Tx.f_int (T : Tx K mg) : mg "int" = none := let ⟨_, X, G⟩ := T.ex; He.free_ok X G (T.c.fact 9 rfl)
theorem Tx.f_min (T : Tx K mg) : mg "min" = none := let ⟨_, X, G⟩ := T.ex; He.free_ok X G (T.c.fact 10 rfl)
theorem Tx.f_isinstance (T : Tx K mg) : mg "isinstance" = none := let ⟨_, X, G⟩ := T.ex; He.free_ok X G (T.c.fact 11 rfl)
theorem Tx.f_range (T : Tx K mg) : mg "range" = none := let ⟨_, X, G⟩ := T.ex; He.free_ok X G (T.c.fact 12 rfl)
theorem Tx.f_list (T : Tx K mg) : mg "list" = none := let ⟨_, X, G⟩ := T.ex; He.free_ok X G (T.c.fact 13 rfl)
theorem Tx.f_tuple (T : Tx K mg) : mg "tuple" = none := let ⟨_, X, G⟩ := T.ex; He.free_ok X G (T.c.fact 14 rfl)
theorem Tx.f_bool (T : Tx K mg) : mg "bool" = none := let ⟨_, X, G⟩ := T.ex; He.free_ok X G (T.c.fact 15 rfl)
theorem Tx.f_str (T : Tx K mg) : mg "str" = none := let ⟨_, X, G⟩ := T.ex; He.free_ok X G (T.c.fact 16 rfl)
theorem Tx.f_len (T : Tx K mg) : mg "len" = none := let ⟨_, X, G⟩ := T.ex; He.free_ok X G (T.c.fact 17 rfl)
theorem Tx.x_MODULUS (T : Tx K mg) : ∃ t, mg "MODULUS" = some (.int (65536) t) := let ⟨_, X, G⟩ := T.ex; He.int_ok X G (T.c.fact 18 rfl)
theorem Tx.c_MODULUS (T : Tx K mg) : mg "MODULUS" = some (.int (65536) T.x_MODULUS.choose) := T.x_MODULUS.choose_spec
end
end BX

namespace BX
open PySem PySem.Spec PyProof.Rows L2 He BL
/-! ### own steps of the walk, by keys -/
set_option hygiene false in
local macro_rules | `(tactic| fail "i3") => `(tactic| intro HM kM xM)
set_option hygiene false in
local macro_rules | `(tactic| fail "i5") => `(tactic| intro pN HN hpN hkN hxN)
set_option hygiene false in
local macro_rules | `(tactic| fail "ic") => `(tactic| intro hc)
set_option hygiene false in
local macro_rules | `(tactic| fail "tr") => `(tactic| first
  | exact Tr.refl _
  | ((with_reducible apply tr_1); (case ed => assumption); (case nx => fail "tr")))
set_option hygiene false in
local macro_rules | `(tactic| fail "tk") => `(tactic| first
  | assumption
  | ((with_reducible apply tk_0); (case nx => assumption))
  | ((with_reducible apply tk_P); (case nx => assumption))
  | ((with_reducible apply tk_1); (case ed => assumption); (case nx => fail "tk")))
set_option hygiene false in
local macro_rules | `(tactic| fail "ne") => `(tactic| first
  | assumption
  | (apply ne_s; assumption)
  | (apply ne_1; (case fr => assumption); (case nx => fail "tk"))
  | (apply ne_2; (case fr => assumption); (case nx => fail "tk")))
set_option hygiene false in
local macro_rules | `(tactic| fail "lk") => `(tactic| first
  | assumption
  | ((with_reducible apply lk_at0); (case ed => assumption); (case nx => fail "lk"))
  | ((with_reducible apply lk_at1); (case ed => assumption); (case ne => fail "ne"); (case nx => fail "lk"))
  | ((with_reducible apply lk_T); (case ed => assumption); (case nx => fail "lk"))
  | ((with_reducible apply lk_T0); fail "lk")
  | ((with_reducible apply lk_F); (case ed => assumption); (case nx => fail "lk"))
  | ((with_reducible apply lk_LF); fail "lk")
  | ((with_reducible apply lk_L0); fail "lk")
  | ((with_reducible apply lk_D); (case ed => assumption); (case nx => fail "lk"))
  | ((with_reducible apply lk_Ds); (case ed => assumption); (case nx => fail "lk"))
  | ((with_reducible apply lk_P0); (case ed => assumption); (case nx => fail "lk"))
  | ((with_reducible apply lk_P1); (case ed => assumption); (case ne => fail "ne"); (case nx => fail "lk"))
  | ((with_reducible apply lk_R); fail "lk")
  | with_reducible exact Fp.i _
  | with_reducible exact Fp.s _
  | with_reducible exact Fp.b _
  | with_reducible exact Fp.n)
set_option hygiene false in
local macro_rules | `(tactic| fail "fr") => `(tactic| first
  | assumption
  | (apply fr_1; (case fr => assumption); (case nx => fail "tr")))
set_option hygiene false in
local macro_rules | `(tactic| fail "kp") => `(tactic| first
  | exact Kp.refl _ _
  | assumption
  | ((with_reducible apply kp_0); (case ed => assumption); (case nx => fail "kp"))
  | ((with_reducible apply kp_1); (case ed => assumption); (case fr => first | exact .inl List.mem_cons_self | exact .inl (List.mem_cons_of_mem _ List.mem_cons_self) | exact .inl (List.mem_cons_of_mem _ (List.mem_cons_of_mem _ List.mem_cons_self)) | exact .inr (by fail "fr")); (case nx => fail "kp")))
local macro_rules | `(tactic| fail "sd") => `(tactic| first
  | with_reducible rfl
  | omega
  | fail "lk"
  | fail "kp"
  | decide)
set_option hygiene false in
local macro_rules | `(tactic| fail "ite") => `(tactic| first
  | with_reducible apply g_iteT
  | with_reducible apply g_iteF
  | with_reducible apply g_iteNT
  | with_reducible apply g_iteNF
  | ((with_reducible apply g_iteP) <;> fail "ic")
  | ((with_reducible apply g_iteN) <;> fail "ic")
  | ((with_reducible apply g_iteNN) <;> fail "ic")
  | ((with_reducible apply g_iteB) <;> fail "ic"))
set_option hygiene false in
local macro_rules | `(tactic| fail "op") => `(tactic| first
  | with_reducible apply uAdd_I
  | with_reducible apply uSub_I
  | with_reducible apply uEq_I
  | with_reducible apply uLt_I
  | with_reducible apply uLe_I
  | with_reducible apply uGt_I
  | with_reducible apply uGe_I
  | with_reducible apply uNe_I
  | ((with_reducible apply uIx_L); (case hs => fail "lk"); (case e => rfl))
  | ((with_reducible apply uIx_T); (case hs => fail "lk"); (case e => rfl))
  | ((with_reducible apply uEq_St); (case e => rfl))
  | ((with_reducible apply uEq_Sf); (case e => decide +kernel))
  | with_reducible apply uEq_S
  | ((with_reducible apply uNe_St); (case e => rfl))
  | ((with_reducible apply uNe_Sf); (case e => decide +kernel))
  | with_reducible apply uNe_S
  | with_reducible apply uIs_R
  | with_reducible apply uIs_I
  | with_reducible apply uIs_NN
  | with_reducible apply uIs_S
  | with_reducible apply uIs_B
  | with_reducible apply uIs_N
  | with_reducible apply uIsnt_R
  | with_reducible apply uIsnt_I
  | with_reducible apply uIsnt_NN
  | with_reducible apply uIsnt_S
  | with_reducible apply uIsnt_B
  | with_reducible apply uIsnt_N
  | ((with_reducible apply uMod_I); (case hc => omega))
  | ((with_reducible apply uFdiv_I); (case hc => exact ⟨by omega, by omega⟩))
  | ((with_reducible apply uMul_I); (case hc => first | exact .inl ⟨by omega, by omega⟩ | exact .inr ⟨by omega, by omega⟩))
  | ((with_reducible apply uPow_I); (case hc => exact ⟨by decide +kernel, by decide +kernel, by decide +kernel⟩))
  | ((with_reducible apply uAdd_S); (case hl => fail "sz"))
  | ((with_reducible apply uAdd_L); (case h1 => fail "lk"); (case h2 => fail "lk"); (case hl => fail "sz"))
  | with_reducible apply uEq_B
  | with_reducible apply uNe_B)
set_option hygiene false in
local macro_rules | `(tactic| fail "sz") => `(tactic| first
  | (show _ ≤ sizeLine; decide)
  | (rw [sizeLine_eq]; omega)
  | (simp only [List.length_append, List.length_cons, List.length_nil, List.length_map, sizeLine_eq]; omega))
set_option hygiene false in
local macro_rules | `(tactic| fail "cb") => `(tactic| first
  | ((with_reducible apply uLen_L); (case hs => fail "lk"))
  | ((with_reducible apply uLen_T); (case hs => fail "lk"))
  | ((with_reducible apply uLen_S); (case hs => fail "sz"))
  | with_reducible apply uInt_I
  | with_reducible apply uInt_B
  | with_reducible apply uMin_I
  | with_reducible apply uMax_I
  | ((with_reducible apply uList_L); (case hs => fail "lk"))
  | ((with_reducible apply uList_T); (case hs => fail "lk"))
  | ((with_reducible apply uTuple_L); (case hs => fail "lk"))
  | ((with_reducible apply uTuple_T); (case hs => fail "lk"))
  | ((with_reducible apply uIsi_D); (case hd => fail "lk"); (case e => rfl))
  | ((with_reducible apply uIsi_A); (case hd => fail "lk"); (case hn => rfl)))
set_option hygiene false in
local macro_rules | `(tactic| fail "vl") => `(tactic| (intro Qv qv; (repeat fail "g1"); exact qv))
set_option hygiene false in
local macro_rules | `(tactic| fail "nb") => `(tactic| simp only [ba_t, ba_f, bo_t, bo_f, bn_t, bn_f, bd_t, bd_f, bt_t, bf_t, or_false, false_or, and_true, true_and, and_false, false_and, or_true, true_or, not_true_eq_false, not_false_eq_true, reduceCtorEq] at hc)
set_option hygiene false in
local macro_rules | `(tactic| fail "an") => `(tactic| first
  | ((with_reducible apply a_and); (case h1 => fail "an"); (case h2 => (intro hc; (try fail "nb"); fail "an")))
  | ((with_reducible apply a_or); (case h1 => fail "an"); (case h2 => (intro hc; (try fail "nb"); fail "an")))
  | ((with_reducible apply a_not); fail "an")
  | fail "vl")
set_option hygiene false in
local macro_rules | `(tactic| fail "g2") => `(tactic| first
  | with_reducible apply g_ret
  | ((with_reducible apply g_ifA); (case hA => fail "an"); (case' h2 => (intro hc; (try fail "nb"))); (case' h1 => (intro hc; (try fail "nb"))))
  | ((with_reducible apply g_ifO); (case hA => fail "an"); (case' h2 => (intro hc; (try fail "nb"))); (case' h1 => (intro hc; (try fail "nb"))))
  | with_reducible apply g_ifs
  | with_reducible apply g_and
  | with_reducible apply g_or
  | with_reducible apply g_not
  | with_reducible apply g_call
  | with_reducible apply g_cb
  | with_reducible apply g_drop
  | with_reducible apply g_next
  | with_reducible apply g_tup
  | with_reducible apply g_lst
  | with_reducible apply g_if
  | with_reducible apply g_andV
  | with_reducible apply g_orV
  | with_reducible apply g_notV
  | with_reducible apply g_LB
  | with_reducible apply g_tB
  | with_reducible apply g_tr
  | with_reducible apply g_sub
  | with_reducible apply g_un
  | with_reducible apply g_neg
  | with_reducible apply g_retN
  | with_reducible apply g_rng
  | with_reducible apply g_rng2
  | with_reducible apply g_fl
  | with_reducible apply g_ft
  | with_reducible apply g_frz
  | with_reducible apply g_break
  | with_reducible apply g_truI
  | with_reducible apply g_truB
  | with_reducible apply g_truN
  | ((with_reducible apply g_truL); (case hs => fail "lk"))
  | ((with_reducible apply g_truT); (case hs => fail "lk"))
  | ((with_reducible apply g_setL); (case ha => fail "lk"); (case e => rfl); (case ey => first | (simp only [Int.reduceToNat, List.set_cons_succ, List.set_cons_zero]; rfl) | rfl); fail "i3")
  | ((with_reducible apply g_newT); (case hl => fail "sz"); fail "i5")
  | ((with_reducible apply g_newL); (case hl => fail "sz"); fail "i5")
  | fail "op"
  | fail "cb"
  | fail "ite"
  | fail "sp"
  | fail "i5")
set_option hygiene false in
local macro_rules | `(tactic| fail "g1") => `(tactic| first
  | with_reducible apply g_op
  | with_reducible apply g_c
  | ((with_reducible apply g_var); (case e => rfl))
  | with_reducible apply g_seq
  | with_reducible apply g_cons
  | with_reducible apply g_nil
  | with_reducible apply g_asg
  | ((with_reducible apply g_name); (case e => rfl))
  | with_reducible apply g_test
  | with_reducible apply g_LT
  | fail "op"
  | fail "g2")
set_option hygiene false in
local macro_rules | `(tactic| fail "go") => `(tactic| repeat' (first
  | with_reducible apply g_op
  | with_reducible apply g_c
  | ((with_reducible apply g_var); (case e => rfl))
  | with_reducible apply g_seq
  | with_reducible apply g_cons
  | with_reducible apply g_nil
  | with_reducible apply g_asg
  | ((with_reducible apply g_name); (case e => rfl))
  | with_reducible apply g_test
  | with_reducible apply g_LT
  | fail "op"
  | fail "g2"))

set_option hygiene false in
local macro_rules | `(tactic| fail "sp") => `(tactic| first
  | ((with_reducible apply SpI_law_same.mk); (case hx => fail "lk"); (case hy => fail "lk"); (first | (case hn => first | assumption | (simp only [dep, depL]; omega) | (simp only [dep, depL]; decide)) | skip); (first | (case hl => first | assumption | rfl) | skip); (case' k => intro H' g1)))
section
variable {P : Program} {w : World} {K : PySem.W.Frag} {mg : Str → Option Value} {base : Heap}

theorem sc_law_same : FnScope ["_law_actual", "_law_due", "_law_k"] ["_law_actual", "_law_due"] (defScope s_law_same) := ⟨rfl, rfl, rfl, by decide +kernel, rfl, by decide +kernel, by decide +kernel⟩
inductive SpI_law_same (K : PySem.W.Frag) (n : Nat) (H : Hp) (Q : VK) (E : XK) : List V → Prop
  | mk (x y : V) (a d : PyData) (hx : Fp K H a x) (hy : Fp K H d y) (hn : dep d < n) (hl : small d = true) (k : ∀ H', Kp [] H H' → Q (.bl (dsame a d)) H') : SpI_law_same K n H Q E [x, y]
abbrev Sp_law_same (K : PySem.W.Frag) (n : Nat) : Sp := fun vs H Q E => SpI_law_same K n H Q E vs
theorem ok_law_same_n (T : Tx K mg) (n : Nat) : Cal P w K mg base CX0 n (ga K "_law_same") ["_law_actual", "_law_due"] (Sp_law_same K n) := by
  obtain ⟨fd, F⟩ := T.c.def_ 6 rfl
  have b := F.bindsN (ps := ["_law_actual", "_law_due"]) fun _ _ _ _ _ _ us hl => match us, hl with | [_, _], _ => rfl
  induction n with
  | zero => exact Cal.zero b F.kp fun vs H Q E h => by cases h; omega
  | succ n ih =>
    have C_law_same := ih
    refine Cal.of (k := n) F b sc_law_same (fun vs H Q E h => by cases h; rfl) (fun cdv A outer s H vs Q E hr h => ?_)
    have sc := sc_law_same
    have hu64 := hr.units
    cases h with | mk x y a d hx hy hn hl k =>
    refine ⟨_, pss_cons (ps_if ((pw_or (pt_tr (pe_callB u_isi (by rfl) T.f_isinstance (by decide +kernel) (pa_cons (pv 1) (pa_cons (pe_bltn (v := .ty "tuple") (by rfl) T.f_tuple (by decide +kernel) rfl) pa_nil)))) (pw_or1 (pt_tr (pe_callB u_isi (by rfl) T.f_isinstance (by decide +kernel) (pa_cons (pv 1) (pa_cons (pe_bltn (v := .ty "list") (by rfl) T.f_list (by decide +kernel) rfl) pa_nil)))))).pt) (pss_cons (ps_if ((pw_or (pt_cmpR (u_ne hu64) (pe_callB u_isi (by rfl) T.f_isinstance (by decide +kernel) (pa_cons (pv 1) (pa_cons (pe_bltn (v := .ty "tuple") (by rfl) T.f_tuple (by decide +kernel) rfl) pa_nil))) (pe_callB u_isi (by rfl) T.f_isinstance (by decide +kernel) (pa_cons (pv 0) (pa_cons (pe_bltn (v := .ty "tuple") (by rfl) T.f_tuple (by decide +kernel) rfl) pa_nil))) (nomark _)) (pw_or1 (pt_cmpR (u_ne hu64) (pe_callB u_isi (by rfl) T.f_isinstance (by decide +kernel) (pa_cons (pv 1) (pa_cons (pe_bltn (v := .ty "list") (by rfl) T.f_list (by decide +kernel) rfl) pa_nil))) (pe_callB u_isi (by rfl) T.f_isinstance (by decide +kernel) (pa_cons (pv 0) (pa_cons (pe_bltn (v := .ty "list") (by rfl) T.f_list (by decide +kernel) rfl) pa_nil))) (nomark _)))).pt) (pss_one (ps_ret pe_bl)) pss_nil) (pss_cons (ps_if (pt_cmpR (u_ne hu64) (pe_callB u_len (by rfl) T.f_len (by decide +kernel) (pa_cons (pv 0) pa_nil)) (pe_callB u_len (by rfl) T.f_len (by decide +kernel) (pa_cons (pv 1) pa_nil)) (nomark _)) (pss_one (ps_ret pe_bl)) pss_nil) (pss_cons (ps_for PassesOwn.never rfl (pi_range1 (by rfl) T.f_range (pa_cons (pe_callB u_len (by rfl) T.f_len (by decide +kernel) (pa_cons (pv 1) pa_nil)) pa_nil)) (pg_name (i := 2) sc.nd rfl (Or.inl rfl)) (pss_one (ps_if (pt_not (pt_tr (pc_call C_law_same hr rfl T.g__law_same (pa_cons (pe_ix u_ix (pv 0) (pv 2) (fun _ _ => rfl)) (pa_cons (pe_ix u_ix (pv 1) (pv 2) (fun _ _ => rfl)) pa_nil))))) (pss_one (ps_ret pe_bl)) pss_nil))) (pss_one (ps_ret pe_bl))))) pss_nil) (pss_cons (ps_if ((pw_or (pt_cmpR u_is (pv 1) pe_non (nomark _)) (pw_or1 (pt_tr (pe_callB u_isi (by rfl) T.f_isinstance (by decide +kernel) (pa_cons (pv 1) (pa_cons (pe_bltn (v := .ty "bool") (by rfl) T.f_bool (by decide +kernel) rfl) pa_nil)))))).pt) (pss_one (ps_ret (pe_and (pe_cmpR (u_eq hu64) (pe_cmpR u_is (pv 0) pe_non (nomark _)) (pe_cmpR u_is (pv 1) pe_non (nomark _)) (nomark _)) (pe_and (pe_or (pe_cmpR u_is (pv 1) pe_non (nomark _)) (pe_one (pe_callB u_isi (by rfl) T.f_isinstance (by decide +kernel) (pa_cons (pv 0) (pa_cons (pe_bltn (v := .ty "bool") (by rfl) T.f_bool (by decide +kernel) rfl) pa_nil))))) (pe_one (pe_cmpR (u_eq hu64) (pv 0) (pv 1) (nomark _))))))) pss_nil) (pss_cons (ps_if (pt_tr (pe_callB u_isi (by rfl) T.f_isinstance (by decide +kernel) (pa_cons (pv 1) (pa_cons (pe_bltn (v := .ty "int") (by rfl) T.f_int (by decide +kernel) rfl) pa_nil)))) (pss_one (ps_ret (pe_and (pe_callB u_isi (by rfl) T.f_isinstance (by decide +kernel) (pa_cons (pv 0) (pa_cons (pe_bltn (v := .ty "int") (by rfl) T.f_int (by decide +kernel) rfl) pa_nil))) (pe_and (pe_not (pe_callB u_isi (by rfl) T.f_isinstance (by decide +kernel) (pa_cons (pv 0) (pa_cons (pe_bltn (v := .ty "bool") (by rfl) T.f_bool (by decide +kernel) rfl) pa_nil)))) (pe_one (pe_cmpR (u_eq hu64) (pv 0) (pv 1) (nomark _))))))) pss_nil) (pss_one (ps_ret (pe_and (pe_callB u_isi (by rfl) T.f_isinstance (by decide +kernel) (pa_cons (pv 0) (pa_cons (pe_bltn (v := .ty "str") (by rfl) T.f_str (by decide +kernel) rfl) pa_nil))) (pe_one (pe_cmpR (u_eq hu64) (pv 0) (pv 1) (nomark _)))))))), ?_⟩
    refine g_start (σ := [some x, some y, none]) rfl ?_
    dsimp only [cx_K]
    cases d with
    | dict l => exact (Fp.small_dict hy l rfl).elim
    | none =>
      have hy' := hy
      simp only [Fp] at hy'
      subst hy'
      fail "go"
      · have e : x = .non := of_decide_eq_true hc
        subst e
        have ea : a = .none := by cases a <;> simp only [Fp] at hx <;> first | rfl | (obtain ⟨_, _, z, _⟩ := hx; cases z) | cases hx
        subst ea
        exact .inl ⟨rfl, k _ (Kp.refl _ _)⟩
      · refine q_bl (k _ (Kp.refl _ _)) ?_
        have e : ¬ x = .non := fun z => hc (decide_eq_true z)
        cases a <;> first | rfl | (simp only [Fp] at hx; exact absurd hx e)
    | bool y =>
      have hy' := hy
      simp only [Fp] at hy'
      subst hy'
      fail "go"
      · cases a <;> simp [isTb, isT] at hc
        simp only [Fp] at hx
        subst hx
        fail "go"
        exact k _ (Kp.refl _ _)
      all_goals
        refine q_bl (k _ (Kp.refl _ _)) ?_
        cases a <;> first | rfl | (simp only [Fp] at hx; simp [isTb, isT] at hc; done) | (simp only [Fp] at hx; subst hx; simp at hc)
    | int y =>
      have hy' := hy
      simp only [Fp] at hy'
      subst hy'
      fail "go"
      · rename_i h1
        cases a <;> simp [isTb, isT] at hc h1
        simp only [Fp] at hx
        subst hx
        fail "go"
        exact k _ (Kp.refl _ _)
      · rename_i h1
        refine q_bl (k _ (Kp.refl _ _)) ?_
        cases a <;> first | rfl | (simp [isTb, isT] at hc h1; done)
      · refine q_bl (k _ (Kp.refl _ _)) ?_
        cases a <;> first | rfl | (simp [isTb, isT] at hc; done)
    | str s =>
      have hy' := hy
      simp only [Fp] at hy'
      subst hy'
      fail "go"
      · cases a <;> simp [isTb, isT] at hc
        simp only [Fp] at hx
        subst hx
        fail "go"
        exact k _ (Kp.refl _ _)
      · refine q_bl (k _ (Kp.refl _ _)) ?_
        cases a <;> first | rfl | simp [isTb, isT] at hc
    | tuple ds =>
      have hy' := hy
      simp only [Fp] at hy'
      obtain ⟨b1, ys, rfl, hs, hys⟩ := hy'
      have hl2 : ds.length ≤ 100000 ∧ smallL ds = true := by simpa [small] using hl
      have hn2 : depL ds < n := by simp only [dep] at hn; omega
      have ely := FpL.len hys
      fail "go"
      · refine q_bl (k _ (Kp.refl _ _)) ?_
        cases a <;> first | rfl | (simp [isTb, isT] at hc; done)
      · have ea : ∃ as, a = .tuple as := by cases a <;> first | exact ⟨_, rfl⟩ | (simp [isTb, isT] at hc; done)
        obtain ⟨as, rfl⟩ := ea
        have hx' := hx
        simp only [Fp] at hx'
        obtain ⟨b2, xs, rfl, hs2, hxs⟩ := hx'
        have elx := FpL.len hxs
        fail "go"
        · refine q_bl (k _ (Kp.refl _ _)) ?_
          cases e : dsame (.tuple as) (.tuple ds) with
          | false => rfl
          | true =>
            have z := dsame_eq _ _ e
            cases z
            omega
        · refine g_forR (by omega) (fun i σ H' => ∃ z, σ = [some (.ref b2), some (.ref b1), z] ∧ Kp [] H H' ∧ ∀ j : Nat, j < i → ∀ a' d', as[j]? = some a' → ds[j]? = some d' → dsame a' d' = true) ⟨none, rfl, Kp.refl _ _, fun j hj => absurd hj (Nat.not_lt_zero _)⟩ ?_ ?_
          · rintro i σ H1 hi ⟨z, rfl, k1, hp⟩
            fail "go"
            refine uIx_TD (ds := as) (by fail "lk") (by fail "lk") (by omega) (by omega) fun v1 a1 e1 f1 => ?_
            fail "go"
            refine uIx_TD (ds := ds) (by fail "lk") (by fail "lk") (by omega) (by omega) fun v2 d2 e2 f2 => ?_
            have hn3 : dep d2 < n := by have := dep_get (Nat.le_refl _) e2; omega
            have hs3 : small d2 = true := small_get hl2.2 e2
            fail "go"
            · refine q_bl (k _ (by fail "kp")) ?_
              cases e : dsame (.tuple as) (.tuple ds) with
              | false => rfl
              | true =>
                have z := dsameL_get (show dsameL as ds = true from e) e1 e2
                rw [z] at hc
                cases hc
            · refine ⟨_, rfl, by fail "kp", fun j hj a' d' ea ed => ?_⟩
              by_cases hj2 : j < i
              · exact hp j hj2 a' d' ea ed
              · have ej : j = i := by omega
                subst ej
                have eI : ((j : Int)).toNat = j := by omega
                rw [eI] at e1 e2
                rw [e1] at ea
                rw [e2] at ed
                cases ea
                cases ed
                cases q : dsame a1 d2 with
                | true => rfl
                | false => rw [q] at hc; cases hc
          · rintro σ H1 ⟨z, rfl, k1, hp⟩
            fail "go"
            refine q_bl (k _ (by fail "kp")) ?_
            refine Eq.symm (dsameL_all (by omega) fun j a' d' ea ed => hp j ?_ a' d' ea ed)
            have := (List.getElem?_eq_some_iff.mp ed).1
            omega
    | list ds =>
      have hy' := hy
      simp only [Fp] at hy'
      obtain ⟨b1, ys, rfl, hs, hys⟩ := hy'
      have hl2 : ds.length ≤ 100000 ∧ smallL ds = true := by simpa [small] using hl
      have hn2 : depL ds < n := by simp only [dep] at hn; omega
      have ely := FpL.len hys
      fail "go"
      · refine q_bl (k _ (Kp.refl _ _)) ?_
        cases a <;> first | rfl | (simp [isTb, isT] at hc; done)
      · have ea : ∃ as, a = .list as := by cases a <;> first | exact ⟨_, rfl⟩ | (simp [isTb, isT] at hc; done)
        obtain ⟨as, rfl⟩ := ea
        have hx' := hx
        simp only [Fp] at hx'
        obtain ⟨b2, xs, rfl, hs2, hxs⟩ := hx'
        have elx := FpL.len hxs
        fail "go"
        · refine q_bl (k _ (Kp.refl _ _)) ?_
          cases e : dsame (.list as) (.list ds) with
          | false => rfl
          | true =>
            have z := dsame_eq _ _ e
            cases z
            omega
        · refine g_forR (by omega) (fun i σ H' => ∃ z, σ = [some (.ref b2), some (.ref b1), z] ∧ Kp [] H H' ∧ ∀ j : Nat, j < i → ∀ a' d', as[j]? = some a' → ds[j]? = some d' → dsame a' d' = true) ⟨none, rfl, Kp.refl _ _, fun j hj => absurd hj (Nat.not_lt_zero _)⟩ ?_ ?_
          · rintro i σ H1 hi ⟨z, rfl, k1, hp⟩
            fail "go"
            refine uIx_LD (ds := as) (by fail "lk") (by fail "lk") (by omega) (by omega) fun v1 a1 e1 f1 => ?_
            fail "go"
            refine uIx_LD (ds := ds) (by fail "lk") (by fail "lk") (by omega) (by omega) fun v2 d2 e2 f2 => ?_
            have hn3 : dep d2 < n := by have := dep_get (Nat.le_refl _) e2; omega
            have hs3 : small d2 = true := small_get hl2.2 e2
            fail "go"
            · refine q_bl (k _ (by fail "kp")) ?_
              cases e : dsame (.list as) (.list ds) with
              | false => rfl
              | true =>
                have z := dsameL_get (show dsameL as ds = true from e) e1 e2
                rw [z] at hc
                cases hc
            · refine ⟨_, rfl, by fail "kp", fun j hj a' d' ea ed => ?_⟩
              by_cases hj2 : j < i
              · exact hp j hj2 a' d' ea ed
              · have ej : j = i := by omega
                subst ej
                have eI : ((j : Int)).toNat = j := by omega
                rw [eI] at e1 e2
                rw [e1] at ea
                rw [e2] at ed
                cases ea
                cases ed
                cases q : dsame a1 d2 with
                | true => rfl
                | false => rw [q] at hc; cases hc
          · rintro σ H1 ⟨z, rfl, k1, hp⟩
            fail "go"
            refine q_bl (k _ (by fail "kp")) ?_
            refine Eq.symm (dsameL_all (by omega) fun j a' d' ea ed => hp j ?_ a' d' ea ed)
            have := (List.getElem?_eq_some_iff.mp ed).1
            omega
theorem ok_law_same (T : Tx K mg) : Cal P w K mg base CX0 60 (ga K "_law_same") ["_law_actual", "_law_due"] (Sp_law_same K 60) := ok_law_same_n T 60
end
set_option hygiene false in
local macro_rules | `(tactic| fail "sp") => `(tactic| first
  | fail "none")
section
variable {P : Program} {w : World} {K : PySem.W.Frag} {mg : Str → Option Value} {base : Heap}

inductive SpI_law_combine (K : PySem.W.Frag) (H : Hp) (Q : VK) (E : XK) : List V → Prop
  | mk (s : Sgn) (a b : Int) (ha : Wd a) (hb : Wd b) (k : Q (.int (s.app a b)) H) : SpI_law_combine K H Q E [.str s.str, .int a, .int b]
abbrev Sp_law_combine (K : PySem.W.Frag) : Sp := fun vs H Q E => SpI_law_combine K H Q E vs
theorem sc_law_combine : FnScope ["_law_sign", "_law_a", "_law_b", "_law_whole"] ["_law_sign", "_law_a", "_law_b"] (defScope s_law_combine) := ⟨rfl, rfl, rfl, by decide +kernel, rfl, by decide +kernel, by decide +kernel⟩
theorem ok_law_combine (T : Tx K mg) : Cal P w K mg base CX0 1 (ga K "_law_combine") ["_law_sign", "_law_a", "_law_b"] (Sp_law_combine K) := by

  obtain ⟨fd, F⟩ := T.c.def_ 7 rfl
  refine Cal.of (k := 0) F (F.bindsN fun _ _ _ _ _ _ us hl => match us, hl with | [_, _, _], _ => rfl) sc_law_combine (fun vs H Q E h => by cases h; rfl) (fun cdv A outer s H vs Q E hr h => ?_)
  have sc := sc_law_combine
  have hu64 := hr.units
  cases h with | mk s a b ha hb k =>
    refine ⟨_, pss_cons (ps_if (pt_cmpR (u_eq hu64) (pv 0) pe_str (nomark _)) (pss_one (ps_ret (pe_op u_sub (pe_op u_add (pv 1) (pv 2)) (pe_op u_mul pe_int (pe_callTy u_int (by rfl) T.f_int (by decide +kernel) (pa_cons (pe_cmpR u_gt (pe_op u_add (pv 1) (pv 2)) pe_int (nomark _)) pa_nil)))))) pss_nil) (pss_cons (ps_if (pt_cmpR (u_eq hu64) (pv 0) pe_str (nomark _)) (pss_one (ps_ret (pe_op u_add (pe_op u_sub (pv 1) (pv 2)) (pe_op u_mul pe_int (pe_callTy u_int (by rfl) T.f_int (by decide +kernel) (pa_cons (pe_cmpR u_lt (pv 1) (pv 2) (nomark _)) pa_nil)))))) pss_nil) (pss_cons (ps_if (pt_cmpR (u_eq hu64) (pv 0) pe_str (nomark _)) (pss_one (ps_ret (pe_op u_sub (pe_op u_mul (pv 1) (pv 2)) (pe_op u_mul (pe_op u_fdiv (pe_op u_mul (pv 1) (pv 2)) pe_int) pe_int)))) pss_nil) (pss_cons (ps_if (pt_cmpR (u_eq hu64) (pv 0) pe_str (nomark _)) (pss_one (ps_ret (pe_callTy u_int (by rfl) T.f_int (by decide +kernel) (pa_cons (pe_cmpR u_lt (pv 1) (pv 2) (nomark _)) pa_nil)))) pss_nil) (pss_cons (ps_if (pt_cmpR (u_eq hu64) (pv 0) pe_str (nomark _)) (pss_one (ps_ret (pe_callTy u_int (by rfl) T.f_int (by decide +kernel) (pa_cons (pe_cmpR (u_eq hu64) (pv 1) (pv 2) (nomark _)) pa_nil)))) pss_nil) (pss_cons (ps_if (pt_cmpR (u_eq hu64) (pv 2) pe_int (nomark _)) (pss_one (ps_ret pe_int)) pss_nil) (pss_cons (ps_set (i := 3) sc.nd rfl (Or.inl rfl) (pe_op u_fdiv (pv 1) (pv 2))) (pss_cons (ps_if (pt_cmpR (u_eq hu64) (pv 0) pe_str (nomark _)) (pss_one (ps_ret (pv 3))) pss_nil) (pss_one (ps_ret (pe_op u_sub (pv 1) (pe_op u_mul (pv 3) (pv 2)))))))))))), ?_⟩
    refine g_start (σ := [some (.str s.str), some (.int a), some (.int b), none]) rfl ?_
    dsimp only [cx_K]
    obtain ⟨a0, a1⟩ := ha
    obtain ⟨b0, b1⟩ := hb
    cases s <;> simp only [Sgn.app] at k <;> simp only [Sgn.str]
    all_goals fail "go"
    all_goals refine q_int k ?_
    · simp only [decide_eq_true_eq]; split <;> omega
    · simp only [decide_eq_true_eq]; split <;> omega
    · rw [Int.emod_def]; omega
    · rw [if_neg (by omega)]
    · rw [if_pos (by omega)]
    · rw [if_neg (by omega)]
    · rw [if_pos (by omega), Int.emod_def, Int.mul_comm]
    · simp only [decide_eq_true_eq]
    · simp only [decide_eq_true_eq]
end
set_option hygiene false in
local macro_rules | `(tactic| fail "sp") => `(tactic| first
  | fail "none")
section
variable {P : Program} {w : World} {K : PySem.W.Frag} {mg : Str → Option Value} {base : Heap}

inductive SpI_combine (K : PySem.W.Frag) (H : Hp) (Q : VK) (E : XK) : List V → Prop
  | mk (s : Sgn) (a b : Int) (ha : Wd a) (hb : Wd b) (k : Q (.int (s.app a b)) H) : SpI_combine K H Q E [.str s.str, .int a, .int b]
abbrev Sp_combine (K : PySem.W.Frag) : Sp := fun vs H Q E => SpI_combine K H Q E vs
theorem sc_combine : FnScope ["sign", "left", "right"] ["sign", "left", "right"] (defScope s_combine) := ⟨rfl, rfl, rfl, by decide +kernel, rfl, by decide +kernel, by decide +kernel⟩
theorem ok_combine (T : Tx K mg) : Cal P w K mg base CX0 1 (ga K "combine") ["sign", "left", "right"] (Sp_combine K) := by

  obtain ⟨fd, F⟩ := T.c.def_ 0 rfl
  refine Cal.of (k := 0) F (F.bindsN fun _ _ _ _ _ _ us hl => match us, hl with | [_, _, _], _ => rfl) sc_combine (fun vs H Q E h => by cases h; rfl) (fun cdv A outer s H vs Q E hr h => ?_)
  have sc := sc_combine
  have hu64 := hr.units
  cases h with | mk s a b ha hb k =>
    refine ⟨_, pss_cons (ps_if (pt_cmpR (u_eq hu64) (pv 0) pe_str (nomark _)) (pss_one (ps_ret (pe_op u_mod (pe_op u_add (pv 1) (pv 2)) (pe_glob (v := .int 65536) rfl (T.c_MODULUS) ⟨_, rfl⟩)))) pss_nil) (pss_cons (ps_if (pt_cmpR (u_eq hu64) (pv 0) pe_str (nomark _)) (pss_one (ps_ret (pe_op u_mod (pe_op u_sub (pv 1) (pv 2)) (pe_glob (v := .int 65536) rfl (T.c_MODULUS) ⟨_, rfl⟩)))) pss_nil) (pss_cons (ps_if (pt_cmpR (u_eq hu64) (pv 0) pe_str (nomark _)) (pss_one (ps_ret (pe_op u_mod (pe_op u_mul (pv 1) (pv 2)) (pe_glob (v := .int 65536) rfl (T.c_MODULUS) ⟨_, rfl⟩)))) pss_nil) (pss_cons (ps_if (pt_cmpR (u_eq hu64) (pv 0) pe_str (nomark _)) (pss_one (ps_ret (pe_ifExp (pt_cmpR u_gt (pv 2) pe_int (nomark _)) (pe_op u_fdiv (pv 1) (pv 2)) pe_int))) pss_nil) (pss_cons (ps_if (pt_cmpR (u_eq hu64) (pv 0) pe_str (nomark _)) (pss_one (ps_ret (pe_ifExp (pt_cmpR u_gt (pv 2) pe_int (nomark _)) (pe_op u_mod (pv 1) (pv 2)) pe_int))) pss_nil) (pss_cons (ps_if (pt_cmpR (u_eq hu64) (pv 0) pe_str (nomark _)) (pss_one (ps_ret (pe_callTy u_int (by rfl) T.f_int (by decide +kernel) (pa_cons (pe_cmpR u_lt (pv 1) (pv 2) (nomark _)) pa_nil)))) pss_nil) (pss_one (ps_ret (pe_callTy u_int (by rfl) T.f_int (by decide +kernel) (pa_cons (pe_cmpR (u_eq hu64) (pv 1) (pv 2) (nomark _)) pa_nil))))))))), ?_⟩
    refine g_start (σ := [some (.str s.str), some (.int a), some (.int b)]) rfl ?_
    dsimp only [cx_K]
    obtain ⟨a0, a1⟩ := ha
    obtain ⟨b0, b1⟩ := hb
    cases s <;> simp only [Sgn.app] at k <;> simp only [Sgn.str]
    all_goals fail "go"
    all_goals simp_all
end
set_option hygiene false in
local macro_rules | `(tactic| fail "sp") => `(tactic| first
  | fail "none")
section
variable {P : Program} {w : World} {K : PySem.W.Frag} {mg : Str → Option Value} {base : Heap}

inductive SpI_law_draw (K : PySem.W.Frag) (H : Hp) (Q : VK) (E : XK) : List V → Prop
  | mk (p : Addr) (n e : Int) (hp : PoolAt K H p e) (h0 : 0 < n) (h1 : n < 1073741824) (k : ∀ v H', 0 ≤ v → v < n → PoolAt K H' p e → Kp [p] H H' → Q (.int v) H') : SpI_law_draw K H Q E [.ref p, .int n]
abbrev Sp_law_draw (K : PySem.W.Frag) : Sp := fun vs H Q E => SpI_law_draw K H Q E vs
theorem sc_law_draw : FnScope ["_law_pool_here", "_law_size", "_law_cell", "_law_value"] ["_law_pool_here", "_law_size"] (defScope s_law_draw) := ⟨rfl, rfl, rfl, by decide +kernel, rfl, by decide +kernel, by decide +kernel⟩
theorem ok_law_draw (T : Tx K mg) : Cal P w K mg base CX0 1 (ga K "_law_draw") ["_law_pool_here", "_law_size"] (Sp_law_draw K) := by

  obtain ⟨fd, F⟩ := T.c.def_ 2 rfl
  refine Cal.of (k := 0) F (F.bindsN fun _ _ _ _ _ _ us hl => match us, hl with | [_, _], _ => rfl) sc_law_draw (fun vs H Q E h => by cases h; rfl) (fun cdv A outer s H vs Q E hr h => ?_)
  have sc := sc_law_draw
  have hu64 := hr.units
  cases h with | mk p n e hp h0 h1 k =>
    refine ⟨_, pss_cons (ps_if ((pw_and (pt_cmpR u_le (pe_ix u_ix (pv 0) pe_int (fun _ _ => rfl)) pe_int (nomark _)) (pw_and (pt_cmpR u_le (pe_ix u_ix (pv 0) pe_int (fun _ _ => rfl)) pe_int (nomark _)) (pw_and1 (pt_cmpR u_lt (pe_ix u_ix (pv 0) pe_int (fun _ _ => rfl)) (pe_callB u_len (by rfl) T.f_len (by decide +kernel) (pa_cons (pe_ix u_ix (pv 0) pe_int (fun _ _ => rfl)) pa_nil)) (nomark _))))).pt) (pss_cons (ps_set (i := 2) sc.nd rfl (Or.inl rfl) (pe_ix u_ix (pe_ix u_ix (pv 0) pe_int (fun _ _ => rfl)) (pe_ix u_ix (pv 0) pe_int (fun _ _ => rfl)) (fun _ _ => rfl))) (pss_cons (ps_asg (pe_op u_add (pe_ix u_ix (pv 0) pe_int (fun _ _ => rfl)) pe_int) (pg_sub (pv 0) pe_int set_list)) (pss_cons (ps_asg (pe_op u_mod (pe_callTy u_int (by rfl) T.f_int (by decide +kernel) (pa_cons (pe_op u_add (pe_op u_mul (pe_ix u_ix (pv 0) pe_int (fun _ _ => rfl)) pe_int) (pv 2)) pa_nil)) pe_int) (pg_sub (pv 0) pe_int set_list)) (pss_cons (ps_asg pe_int (pg_sub (pv 0) pe_int set_list)) (pss_one (ps_if (pt_cmpR u_ge (pv 2) (pe_op u_pow pe_int pe_int) (nomark _)) (pss_one (ps_asg (pv 2) (pg_sub (pv 0) pe_int set_list))) pss_nil)))))) pss_nil) (pss_cons (ps_if (pt_cmpR u_gt (pe_ix u_ix (pv 0) pe_int (fun _ _ => rfl)) pe_int (nomark _)) (pss_cons (ps_set (i := 3) sc.nd rfl (Or.inl rfl) (pe_op u_mod (pe_callTy u_int (by rfl) T.f_int (by decide +kernel) (pa_cons (pe_ix u_ix (pv 0) pe_int (fun _ _ => rfl)) pa_nil)) (pv 1))) (pss_cons (ps_asg (pe_op u_fdiv (pe_ix u_ix (pv 0) pe_int (fun _ _ => rfl)) (pv 1)) (pg_sub (pv 0) pe_int set_list)) (pss_cons (ps_asg pe_int (pg_sub (pv 0) pe_int set_list)) (pss_one (ps_ret (pv 3)))))) pss_nil) (pss_cons (ps_asg (pe_op u_sub (pe_ix u_ix (pv 0) pe_int (fun _ _ => rfl)) pe_int) (pg_sub (pv 0) pe_int set_list)) (pss_cons (ps_asg (pe_op u_mod (pe_callTy u_int (by rfl) T.f_int (by decide +kernel) (pa_cons (pe_op u_add (pe_op u_mul (pe_ix u_ix (pv 0) pe_int (fun _ _ => rfl)) pe_int) pe_int) pa_nil)) pe_int) (pg_sub (pv 0) pe_int set_list)) (pss_one (ps_ret (pe_op u_mod (pe_op u_mod (pe_callTy u_int (by rfl) T.f_int (by decide +kernel) (pa_cons (pe_op u_add (pe_op u_mul (pe_ix u_ix (pv 0) pe_int (fun _ _ => rfl)) pe_int) pe_int) pa_nil)) pe_int) (pv 1))))))), ?_⟩
    refine g_start (σ := [some (.ref p), some (.int n), none, none]) rfl ?_
    dsimp only [cx_K]
    obtain ⟨l, ns, a, b, c, d, hl, hs, hn, ha, hc0, hc1⟩ := hp
    fail "go"
    · refine uIx_LI (SqF.l hs) ha (by omega) fun x hx => ?_
      fail "go"
      all_goals exact k _ _ (Int.emod_nonneg _ (by omega)) (Int.emod_lt_of_pos _ h0) ⟨l, ns, _, _, _, _, ‹_›, by fail "lk", hn, by omega, by omega, by omega⟩ (by fail "kp")
    all_goals exact k _ _ (Int.emod_nonneg _ (by omega)) (Int.emod_lt_of_pos _ h0) ⟨l, ns, _, _, _, _, ‹_›, by fail "lk", hn, by omega, by omega, by omega⟩ (by fail "kp")
end
set_option hygiene false in
local macro_rules | `(tactic| fail "sp") => `(tactic| first
  | ((with_reducible apply SpI_law_draw.mk); (first | (case hp => fail "sd") | skip); (first | (case h0 => fail "sd") | skip); (first | (case h1 => fail "sd") | skip); (case' k => intro v H' g1 g2 g3 g4)))
section
variable {P : Program} {w : World} {K : PySem.W.Frag} {mg : Str → Option Value} {base : Heap}

inductive SpI_law_number (K : PySem.W.Frag) (H : Hp) (Q : VK) (E : XK) : List V → Prop
  | mk (p : Addr) (e : Int) (hp : PoolAt K H p e) (k : ∀ v H', Wd v → PoolAt K H' p e → Kp [p] H H' → Q (.int v) H') : SpI_law_number K H Q E [.ref p]
abbrev Sp_law_number (K : PySem.W.Frag) : Sp := fun vs H Q E => SpI_law_number K H Q E vs
theorem sc_law_number : FnScope ["_law_pool_here"] ["_law_pool_here"] (defScope s_law_number) := ⟨rfl, rfl, rfl, by decide +kernel, rfl, by decide +kernel, by decide +kernel⟩
theorem ok_law_number (T : Tx K mg) : Cal P w K mg base CX0 2 (ga K "_law_number") ["_law_pool_here"] (Sp_law_number K) := by
  have C_law_draw := ok_law_draw (P := P) (w := w) (base := base) T
  obtain ⟨fd, F⟩ := T.c.def_ 5 rfl
  refine Cal.of (k := 1) F (F.bindsN fun _ _ _ _ _ _ us hl => match us, hl with | [_], _ => rfl) sc_law_number (fun vs H Q E h => by cases h; rfl) (fun cdv A outer s H vs Q E hr h => ?_)
  have sc := sc_law_number
  have hu64 := hr.units
  cases h with | mk p e hp k =>
    refine ⟨_, pss_cons (ps_if (pt_cmpR (u_eq hu64) (pc_call C_law_draw (hr.mono (by decide)) rfl T.g__law_draw (pa_cons (pv 0) (pa_cons pe_int pa_nil))) pe_int (nomark _)) (pss_one (ps_ret (pc_call C_law_draw (hr.mono (by decide)) rfl T.g__law_draw (pa_cons (pv 0) (pa_cons pe_int pa_nil))))) pss_nil) (pss_one (ps_ret (pc_call C_law_draw (hr.mono (by decide)) rfl T.g__law_draw (pa_cons (pv 0) (pa_cons pe_int pa_nil))))), ?_⟩
    refine g_start (σ := [some (.ref p)]) rfl ?_
    dsimp only [cx_K]
    fail "go"
    all_goals exact k _ _ ⟨by omega, by omega⟩ (by fail "lk") (by fail "kp")
end
set_option hygiene false in
local macro_rules | `(tactic| fail "sp") => `(tactic| first
  | fail "none")
section
variable {P : Program} {w : World} {K : PySem.W.Frag} {mg : Str → Option Value} {base : Heap}

inductive SpI_law_pool (K : PySem.W.Frag) (H : Hp) (Q : VK) (E : XK) : List V → Prop
  | mk (a : Addr) (ns : List Int) (e : Int) (hs : SqL K H a (ns.map V.int)) (hn : ns.length ≤ 63) (k : ∀ p H', H p = none → PoolAt K H' p e → Kp [] H H' → Q (.ref p) H') : SpI_law_pool K H Q E [.ref a, .int e]
abbrev Sp_law_pool (K : PySem.W.Frag) : Sp := fun vs H Q E => SpI_law_pool K H Q E vs
theorem sc_law_pool : FnScope ["_law_script", "_law_budget"] ["_law_script", "_law_budget"] (defScope s_law_pool) := ⟨rfl, rfl, rfl, by decide +kernel, rfl, by decide +kernel, by decide +kernel⟩
theorem ok_law_pool (T : Tx K mg) : Cal P w K mg base CX0 1 (ga K "_law_pool") ["_law_script", "_law_budget"] (Sp_law_pool K) := by

  obtain ⟨fd, F⟩ := T.c.def_ 1 rfl
  refine Cal.of (k := 0) F (F.bindsN fun _ _ _ _ _ _ us hl => match us, hl with | [_, _], _ => rfl) sc_law_pool (fun vs H Q E h => by cases h; rfl) (fun cdv A outer s H vs Q E hr h => ?_)
  have sc := sc_law_pool
  have hu64 := hr.units
  cases h with | mk a ns e hs hn k =>
    refine ⟨_, pss_one (ps_ret (pe_lst (pa_cons (pe_frz (pe_callTy u_list (by rfl) T.f_list (by decide +kernel) (pa_cons (pv 0) pa_nil))) (pa_cons pe_int (pa_cons pe_int (pa_cons pe_int (pa_cons pe_int (pa_cons (pv 1) pa_nil)))))))), ?_⟩
    refine g_start (σ := [some (.ref a), some (.int e)]) rfl ?_
    dsimp only [cx_K]
    fail "go"
    refine g_frzYes (K := K) hxN fun H2 k2 h2 => ?_
    fail "go"
    exact k _ _ (by fail "fr") ⟨_, ns, _, _, _, _, ‹_›, by fail "lk", hn, by omega, by omega, by omega⟩ (by fail "kp")
end
set_option hygiene false in
local macro_rules | `(tactic| fail "sp") => `(tactic| first
  | ((with_reducible apply SpI_law_same.mk); (case hx => fail "lk"); (case hy => fail "lk"); (first | (case hn => first | assumption | (simp only [dep, depL]; omega) | (simp only [dep, depL]; decide)) | skip); (first | (case hl => first | assumption | rfl) | skip); (case' k => intro H' g1))
  | ((with_reducible apply SpI_law_combine.mk); (first | (case ha => fail "sd") | skip); (first | (case hb => fail "sd") | skip); (case' k => skip))
  | ((with_reducible apply SpI_combine.mk); (first | (case ha => fail "sd") | skip); (first | (case hb => fail "sd") | skip); (case' k => skip))
  | ((with_reducible apply SpI_law_draw.mk); (first | (case hp => fail "sd") | skip); (first | (case h0 => fail "sd") | skip); (first | (case h1 => fail "sd") | skip); (case' k => intro v H' g1 g2 g3 g4))
  | ((with_reducible apply SpI_law_number.mk); (first | (case hp => fail "sd") | skip); (case' k => intro v H' g1 g2 g3))
  | ((with_reducible apply SpI_law_pool.mk); (first | (case hs => fail "sd") | skip); (first | (case hn => fail "sd") | skip); (case' k => intro p H' g1 g2 g3)))
section
variable {P : Program} {w : World} {K : PySem.W.Frag} {mg : Str → Option Value} {base : Heap}

inductive SpI_law (K : PySem.W.Frag) (H : Hp) (Q : VK) (E : XK) : List V → Prop
  | mk (a : Addr) (ns : List Int) (hs : SqF K H a (ns.map V.int)) (hn : ns.length ≤ 63) (k : ∀ H', Q (.bl true) H') : SpI_law K H Q E [.ref a]
abbrev Sp_law (K : PySem.W.Frag) : Sp := fun vs H Q E => SpI_law K H Q E vs
theorem sc_law : FnScope ["_law_script", "_law_pool_here", "_law_k", "_law_left", "_law_right", "_law_sign"] ["_law_script"] (defScope s_law) := ⟨rfl, rfl, rfl, by decide +kernel, rfl, by decide +kernel, by decide +kernel⟩
theorem ok_law (T : Tx K mg) {fd : FuncData} (F : FunD K d_law.name d_law.qual d_law.params d_law.body d_law.scope (d_law.dvs K) (d_law.kws K) (fAd K d_law.at_) fd) : FnOk P w K mg base CX0 61 (ga K "law") fd ["_law_script"] (Sp_law K) := by
  have C_law_same := ok_law_same (P := P) (w := w) (base := base) T
  have C_law_combine := ok_law_combine (P := P) (w := w) (base := base) T
  have C_combine := ok_combine (P := P) (w := w) (base := base) T
  have C_law_draw := ok_law_draw (P := P) (w := w) (base := base) T
  have C_law_number := ok_law_number (P := P) (w := w) (base := base) T
  have C_law_pool := ok_law_pool (P := P) (w := w) (base := base) T
  refine Fn.of (k := 60) F sc_law (fun vs H Q E h => by cases h; rfl) (fun cdv A outer s H vs Q E hr h => ?_)
  have sc := sc_law
  have hu64 := hr.units
  cases h with | mk a ns hs hn k =>
    refine ⟨_, pss_cons (ps_set (i := 1) sc.nd rfl (Or.inl rfl) (pc_call C_law_pool (hr.mono (by decide)) rfl T.g__law_pool (pa_cons (pv 0) (pa_cons pe_int pa_nil)))) (pss_cons (ps_for PassesOwn.never rfl (pi_range1 (by rfl) T.f_range (pa_cons (pe_op u_add pe_int (pe_op u_fdiv (pe_callB u_len (by rfl) T.f_len (by decide +kernel) (pa_cons (pv 0) pa_nil)) pe_int)) pa_nil)) (pg_name (i := 2) sc.nd rfl (Or.inl rfl)) (pss_cons (ps_set (i := 3) sc.nd rfl (Or.inl rfl) (pc_call C_law_number (hr.mono (by decide)) rfl T.g__law_number (pa_cons (pv 1) pa_nil))) (pss_cons (ps_set (i := 4) sc.nd rfl (Or.inl rfl) (pe_ix u_ix (pe_tup (pa_cons (pc_call C_law_number (hr.mono (by decide)) rfl T.g__law_number (pa_cons (pv 1) pa_nil)) (pa_cons (pv 3) (pa_cons (pe_op u_sub pe_int (pc_call C_law_draw (hr.mono (by decide)) rfl T.g__law_draw (pa_cons (pv 1) (pa_cons pe_int pa_nil)))) (pa_cons (pc_call C_law_draw (hr.mono (by decide)) rfl T.g__law_draw (pa_cons (pv 1) (pa_cons pe_int pa_nil))) pa_nil))))) (pc_call C_law_draw (hr.mono (by decide)) rfl T.g__law_draw (pa_cons (pv 1) (pa_cons pe_int pa_nil))) (fun _ _ => rfl))) (pss_one (ps_for PassesOwn.never rfl (pi_tup (pe_tup (pa_cons pe_str (pa_cons pe_str (pa_cons pe_str (pa_cons pe_str (pa_cons pe_str (pa_cons pe_str (pa_cons pe_str pa_nil))))))))) (pg_name (i := 5) sc.nd rfl (Or.inl rfl)) (pss_cons (ps_if (pt_not (pt_tr (pc_call C_law_same (hr.mono (by decide)) rfl T.g__law_same (pa_cons (pc_call C_combine (hr.mono (by decide)) rfl T.g_combine (pa_cons (pv 5) (pa_cons (pv 3) (pa_cons (pv 4) pa_nil)))) (pa_cons (pc_call C_law_combine (hr.mono (by decide)) rfl T.g__law_combine (pa_cons (pv 5) (pa_cons (pv 3) (pa_cons (pv 4) pa_nil)))) pa_nil))))) (pss_one (ps_ret pe_bl)) pss_nil) (pss_one (ps_if (pt_not (pt_tr (pc_call C_law_same (hr.mono (by decide)) rfl T.g__law_same (pa_cons (pc_call C_combine (hr.mono (by decide)) rfl T.g_combine (pa_cons (pv 5) (pa_cons (pv 4) (pa_cons (pv 3) pa_nil)))) (pa_cons (pc_call C_law_combine (hr.mono (by decide)) rfl T.g__law_combine (pa_cons (pv 5) (pa_cons (pv 4) (pa_cons (pv 3) pa_nil)))) pa_nil))))) (pss_one (ps_ret pe_bl)) pss_nil)))))))) (pss_one (ps_ret pe_bl))), ?_⟩
    refine g_start (σ := [some (.ref a), none, none, none, none, none]) rfl ?_
    dsimp only [cx_K]
    fail "go"
    refine g_forR (by simp only [List.length_map]; omega) (fun i σ H1 => ∃ x1 x2 x3 x4, σ = [some (.ref a), some (.ref p), x1, x2, x3, x4] ∧ PoolAt K H1 p 0) ⟨_, _, _, _, rfl, g2⟩ ?_ ?_
    · rintro i σ H1 hi ⟨x1, x2, x3, x4, rfl, hp⟩
      fail "go"
      refine uIx_TM (by fail "lk") (by omega) (by simp only [List.length_cons, List.length_nil]; omega) fun x hx => ?_
      obtain ⟨w, rfl, hw⟩ : ∃ w, x = .int w ∧ Wd w := by
        simp only [List.mem_cons, List.not_mem_nil, or_false] at hx
        rcases hx with rfl | rfl | rfl | rfl <;> exact ⟨_, rfl, by first | assumption | exact ⟨by omega, by omega⟩⟩
      fail "go"
      refine g_forT (by fail "lk") (fun j σ H2 => ∃ z l r, σ = [some (.ref a), some (.ref p), some (.int i), some (.int l), some (.int r), z] ∧ PoolAt K H2 p 0 ∧ Wd l ∧ Wd r ∧ Kp [p] HN H2) ⟨_, _, _, rfl, by fail "lk", by assumption, hw, Kp.refl _ _⟩ ?_ ?_ ?_
      · rintro j σ H2 hj ⟨z, l, r, rfl, hp2, hl, hr2, k2⟩
        fail "lk"
      · rintro j x σ H2 hj ⟨z, l, r, rfl, hp2, hl, hr2, k2⟩
        obtain ⟨s, rfl⟩ := sgn_mem (List.mem_of_getElem? hj)
        fail "go"
        · rw [dsame_refl _ rfl] at hc; cases hc
        · rw [dsame_refl _ rfl] at hc; cases hc
        · exact ⟨_, _, _, rfl, by fail "lk", hl, hr2, by fail "kp"⟩
      · rintro σ H2 ⟨z, l, r, rfl, hp2, hl, hr2, k2⟩
        exact ⟨_, _, _, _, rfl, hp2⟩
    · rintro σ H1 ⟨x1, x2, x3, x4, rfl, hp⟩
      fail "go"
      exact k _
end
end BX
namespace BX
open PySem PySem.Spec PyProof.Rows L2 He BL
set_option maxRecDepth 100000
def loose0 : List PySem.Str := ["__name__", "MODULUS", "combine", "_law_pool", "_law_draw", "_law_spend", "_law_few", "_law_number", "_law_same", "_law_combine"]
def loose : List PySem.Str := loose0
abbrev R : PySem.W.OpenRow := PySem.W.OpenLaw.row PySem.Challenge.rw_blameless_k00_operators_on_words
abbrev hk : PySem.W.Hook := BH.hookX 5 qs fn
def ob (s : PySem.W.SharedT) : He.AlD := BH.obsXG 5 qs fn (HandSHeadRun.getT s)
theorem ob_eq (s : PySem.W.SharedT) : ob s = hk.obs s.abs := BH.obsXG_eq (HandSHeadRun.getT_eq s)
theorem run (w : World) : HandSHeadRun.RunEq R (PySem.W.view R.prog [11]) hk ob 12000 loose w := by
  intro os
  kernel_rfl
theorem walk : PySem.W.WalkO (PySem.W.view R.prog [11]) loose (PySem.W.XL (PySem.W.view R.prog [11]) []) hk.says R.toRowW (HandSHeadRun.topDef R.prog 11) [] fun f vs => PySem.call f vs := by
  refine BH.walk_ofEB (l := PySem.Challenge.rw_blameless_k00_operators_on_words) (n := 63) (k := 61) (x := "_law_script") (CX := fun _ => L2.CX0) rfl (by decide) (by kernel_rfl) ⟨rfl, by decide, by decide⟩ ?F (fun _ _ _ _ _ z => z)
  intro w mg fa h Y G hmg0
  obtain ⟨K, KX, c⟩ := Y
  have hmg : mg ("law" : PySem.Str) = some (.ref fa) := by
    have e : (HandSHeadRun.topDef R.prog 11).name = ("law" : PySem.Str) := by kernel_rfl
    rw [← e]
    exact hmg0
  have T : Tx K mg := ⟨⟨h, KX, G⟩, c⟩
  have e2 := hmg.symm.trans T.g_law
  cases e2
  obtain ⟨fd, F⟩ := T.c.def_ 8 (d := d_law) rfl
  have b := FunD.bindsA (ps := ["_law_script"]) F fun _ _ _ _ _ _ us hl => match us, hl with | [_], _ => rfl
  exact ⟨K, fd, Sp_law K, KX, fun s v => b s [v] rfl, fun H a ns hl hb hO hS => SpI_law.mk a ns (only_frz hO hS) hl fun _ => rfl, fun base _ _ => ok_law T F⟩
end BX
open PySem PySem.W PySem.Calls PyProof.Rows
theorem PySem.Challenge.cw_blameless_k00_operators_on_words_holds : PySem.Challenge.rw_blameless_k00_operators_on_words.Holds := by
  w_on; o_law
  refine HandSHeadRun.head_any (r := OpenLaw.row PySem.Challenge.rw_blameless_k00_operators_on_words) (q := view (OpenLaw.row PySem.Challenge.rw_blameless_k00_operators_on_words).prog [11]) (H := BX.hk) (ob := BX.ob) (M := 12000) (loose := BX.loose) (d := HandSHeadRun.topDef (OpenLaw.row PySem.Challenge.rw_blameless_k00_operators_on_words).prog 11) (kwd := []) BX.ob_eq
    (by kernel_rfl) (fun s => by kernel_rfl) BX.run (by kernel_rfl) (by kernel_rfl) (by kernel_rfl) (by rfl) (by first | assumption | decide +kernel) (by decide +kernel) ⟨rfl, rfl, rfl, rfl, rfl, by decide +kernel⟩ ?hw ?hc
  case hw => w_witness2
  case hc => exact BX.walk

