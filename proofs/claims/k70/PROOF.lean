import PyProof.Rows.All
import Wide.All
import OpenK.AllK
import Wide.FinOn
import KE.KStateDown
import HandS.ForMost
import HandS.ForExc
import HandS.Defaults
import HandS.Head0
import HandS.Head1
import HandS.Head2
import HandS.HeadEnd
import HandS.HeadHook1
import HandS.HeadHook2
import HandS.EndBits
import HandS.TupAny
import HandS.TupMul
import HandS.IsInst
import HandS.Deep
import HandS.Wide
import HandS.FStr
import HandS.RaiseMore
import HandS.Codes
import HandS.Rev
import HandS.Zip
import HandS.Style
import PySem.Challenge.RW_blameless_k70_policies
set_option Elab.async false
set_option linter.all false
set_option maxRecDepth 100000
set_option maxHeartbeats 2000000
/-! ## The head of a law: facts of every def and class, by names (own text) -/
namespace BH
open PySem PySem.Spec PyProof.Rows L2 He
/-- facts are Bool questions about the written part -/
abbrev Qs : Type := List (PySem.W.Frag → Bool)
def obsX (qs : Qs) (fn : List DefD) (K : PySem.W.Frag) : AlD := ((qs.all fun f => f K) && fn.all fun d => d.ok K, fn.map fun d => fnW K d.at_)
def SaysX (qs : Qs) (fn : List DefD) (K : PySem.W.Frag) : Prop := obsX qs fn K = valD fn
def obsXG (n : Nat) (qs : Qs) (fn : List DefD) (g : Addr → Option Obj) : AlD := obsX qs fn (frG g (asD g n))
def hookX (n : Nat) (qs : Qs) (fn : List DefD) : PySem.W.Hook where
  α := AlD
  obs := fun s => obsXG n qs fn s.heap.get?
  val := fun _ => valD fn
  says := fun _ h => ∃ K : PySem.W.Frag, K.In h ∧ SaysX qs fn K
  of := fun _ _ e => ⟨_, frG_in, e⟩
  keeps := fun _ _ _ ⟨K, hK, c⟩ k => ⟨K, PySem.W.Frag.In.keeps hK k, c⟩
theorem obsXG_eq {n : Nat} {qs : Qs} {fn : List DefD} {g : Addr → Option Obj} {s : Shared} (h : ∀ a, g a = s.heap.get? a) : obsXG n qs fn g = (hookX n qs fn).obs s := by
  have e : g = s.heap.get? := funext h
  rw [e] <;> rfl
section
variable {qs : Qs} {fn : List DefD} {K : PySem.W.Frag}
theorem SaysX.fact (c : SaysX qs fn K) (i : Nat) {f : PySem.W.Frag → Bool} (h : qs[i]? = some f := by rfl) : f K = true := by
  have c1 := (ba (show ((qs.all fun f => f K) && fn.all fun d => d.ok K) = true from congrArg (fun z : AlD => z.1) c)).1
  exact List.all_eq_true.mp c1 f (List.mem_of_getElem? h)
theorem SaysX.def_ (c : SaysX qs fn K) (i : Nat) {d : DefD} (h : fn[i]? = some d := by rfl) : ∃ fd, FunD K d.name d.qual d.params d.body d.scope (d.dvs K) (d.kws K) (fAd K d.at_) fd := by
  have c2 := (ba (show ((qs.all fun f => f K) && fn.all fun d => d.ok K) = true from congrArg (fun z : AlD => z.1) c)).2
  have e : fn.map (fun d => fnW K d.at_) = fn.map DefD.val := congrArg (fun z : AlD => z.2) c
  have e2 : (fn.map fun d => fnW K d.at_)[i]? = (fn.map DefD.val)[i]? := by rw [e]
  rw [List.getElem?_map, List.getElem?_map, h] at e2
  exact DefD.funD (Option.some.inj e2) (List.all_eq_true.mp c2 d (List.mem_of_getElem? h))
end
/-- the end of a law over a head by facts, the script's bits told -/
theorem walk_ofEB {l : PySem.W.OpenLaw} {n k : Nat} {q : Program} {loose : List Str} {XP : (Str → Option Value) → Heap → Prop} {YP : World → Heap → Prop} {d : DefRec} {CX : World → CXT} {x : Str}
    (hn : l.most = some n) (hn2 : n ≤ sizeLine) (hdf : d.params.defaults = []) (hr : Room k callerA)
    (F : ∀ (w : World) (mg : Str → Option Value) (fa : Addr) (h : Heap), YP w h → h.Ns mainGlobals mg → mg d.name = some (.ref fa) →
      ∃ (K : PySem.W.Frag) (fd : FuncData) (sp : Sp), K.In h ∧ (∀ (s : Shared) (u : Value), BindsTo s fd ⟨[u], []⟩ [(x, u)]) ∧
        (∀ (H : Hp) (a : Addr) (ns : List Int), ns.length ≤ n → (∀ n ∈ ns, Builtin.Int.intBits n ≤ 1048576) → Only H → SqL K H a (ns.map V.int) → sp [.ref a] H (fun v _ => v = .bl true) fun _ _ _ => False) ∧
        ∀ base : Heap, K.In base → base.Ns mainGlobals mg → FnOk l.prog w K mg base (CX w) k fa fd [x] sp)
    (hCX : ∀ (w : World) (H : Hp) (s : Shared) (e : Value) (s' : Shared), CX w [] H s (fun _ _ _ => False) e s' → False) :
    PySem.W.WalkO q loose XP YP l.row.toRowW d [] (fun f vs => PySem.call f vs) := by
  refine Att.attach_callB hn hdf fun w s₀ s₁ mg mb fa o pm cd doc a vs ns G Y ho hd hcd hmg hobj hints hlen hbits hg => ?_
  obtain ⟨K, fd, sp, KX, hb, hsp, hF⟩ := F w mg fa _ Y G.T.g hmg
  exact law_call KX G.T.g G.T.b G.T.builtins G.T.nolimit hg hobj hints (Nat.le_trans hlen hn2) hr hF hb (fun H hO hS => hsp H a ns hlen hbits hO hS) fun H e s' => hCX w H s₁ e s'
end BH

set_option Elab.async false
set_option linter.all false
set_option maxRecDepth 100000
set_option maxHeartbeats 2000000
/-! ## The layer of this work: union rules, steps on heaps, data (own text) -/
namespace BL
open PySem PySem.Spec PyProof.Rows L2

/-! ### steps of the heap: what stands as it was -/
def Imm : HO → Prop
  | .tup _ => True
  | .frz _ _ => True
  | _ => False
structure Kp (M : List Addr) (H H' : Hp) : Prop where
  keep : ∀ b o, b ∉ M → H b = some o → H' b = some o
  imm : ∀ b o, Imm o → H b = some o → H' b = some o
  trk : ∀ b o, H b = some o → ∃ o', H' b = some o'
theorem Kp.refl (M : List Addr) (H : Hp) : Kp M H H := ⟨fun _ _ _ h => h, fun _ _ _ h => h, fun _ o h => ⟨o, h⟩⟩
theorem Kp.fresh {M H H' b} (e : Kp M H H') (h : H' b = none) : H b = none := by
  cases q : H b with
  | none => rfl
  | some o =>
    obtain ⟨o', q'⟩ := e.trk b o q
    rw [h] at q'
    cases q'
theorem Kp.new {M H p o} (h : H p = none) : Kp M H (upd H p o) :=
  ⟨fun b u _ e => by rw [upd_ne (ne_of_none e h)]; exact e, fun b u _ e => by rw [upd_ne (ne_of_none e h)]; exact e, fun b u e => ⟨u, by rw [upd_ne (ne_of_none e h)]; exact e⟩⟩
theorem Kp.mut {H p o u} (h : H p = some u) (hi : ¬ Imm u) : Kp [p] H (upd H p o) :=
  ⟨fun b v n e => by rw [upd_ne (fun z => n (by rw [z]; exact List.mem_singleton.mpr rfl))]; exact e,
   fun b v i e => by
    have n : b ≠ p := fun z => by
      rw [z, h] at e
      cases e
      exact hi i
    rw [upd_ne n]
    exact e,
   fun b v e => by
    by_cases n : b = p
    · exact ⟨o, by rw [n, upd_same]⟩
    · exact ⟨v, by rw [upd_ne n]; exact e⟩⟩
/-- from the beginning to now: what changed is named or was not there -/
theorem Kp.step {M M' H0 H H'} (a : Kp M H0 H) (b : Kp M' H H') (s : ∀ m ∈ M', m ∈ M ∨ H0 m = none) : Kp M H0 H' :=
  ⟨fun c o n e => b.keep c o (fun z => (s c z).elim n fun q => by rw [q] at e; cases e) (a.keep c o n e),
   fun c o i e => b.imm c o i (a.imm c o i e),
   fun c o e => let ⟨o', e'⟩ := a.trk c o e; b.trk c o' e'⟩
theorem Kp.weak {M M' H H'} (a : Kp M H H') (s : ∀ m ∈ M, m ∈ M' ∨ H m = none) : Kp M' H H' := Kp.step (Kp.refl M' H) a s
theorem Kp.nil {H H'} (a : Kp [] H H') : ∀ M, Kp M H H' := fun _ => a.weak fun _ h => nomatch h
theorem Kp.one {M p H H'} (a : Kp [p] H H') (s : p ∈ M ∨ H p = none) : Kp M H H' := a.weak fun m h => by
  rw [List.mem_singleton.mp h]
  exact s
theorem Kp.at1 {p H H' b o} (a : Kp [p] H H') (n : b ≠ p) (h : H b = some o) : H' b = some o := a.keep b o (fun z => n (List.mem_singleton.mp z)) h
theorem Kp.at0 {H H' b o} (a : Kp [] H H') (h : H b = some o) : H' b = some o := a.keep b o (fun z => nomatch z) h

/-! ### data: never changed -/
/-- a list that is not changed any more -/
def SqF (K : PySem.W.Frag) (H : Hp) (a : Addr) (xs : List V) : Prop :=
  (∃ o, H a = some (.frz o (.lst xs))) ∨
    ∃ (o : Obj) (its : Array Value) (n : Nat), K.lookup a = some o ∧ o.cls = .type "list" ∧ o.dict = none ∧ o.data = .seq its n ∧ its.size ≤ sizeLine ∧ Vals xs its.toList
theorem SqF.l {K H a xs} (h : SqF K H a xs) : SqL K H a xs := h.elim (fun h => .inl (.inr h)) .inr
theorem SqF.kp {K M H H' a xs} (e : Kp M H H') (h : SqF K H a xs) : SqF K H' a xs := h.elim (fun ⟨o, h⟩ => .inl ⟨o, e.imm _ _ trivial h⟩) .inr
theorem SqT.kp {K M H H' a xs} (e : Kp M H H') (h : SqT K H a xs) : SqT K H' a xs := by
  rcases h with (h | ⟨o, h⟩) | h
  · exact .inl (.inl (e.imm _ _ trivial h))
  · exact .inl (.inr ⟨o, e.imm _ _ trivial h⟩)
  · exact .inr h
mutual
/-- the value v bears the data d, for good -/
def Fp (K : PySem.W.Frag) (H : Hp) : PyData → V → Prop
  | .none, v => v = .non
  | .bool b, v => v = .bl b
  | .int i, v => v = .int i
  | .str s, v => v = .str s
  | .list ds, v => ∃ a xs, v = .ref a ∧ SqF K H a xs ∧ FpL K H ds xs
  | .tuple ds, v => ∃ a xs, v = .ref a ∧ SqT K H a xs ∧ FpL K H ds xs
  | .dict _, _ => False
def FpL (K : PySem.W.Frag) (H : Hp) : List PyData → List V → Prop
  | [], xs => xs = []
  | d :: ds, xs => ∃ v vs, xs = v :: vs ∧ Fp K H d v ∧ FpL K H ds vs
end
mutual
theorem Fp.kp {K M H H'} (e : Kp M H H') : ∀ (d : PyData) (v : V), Fp K H d v → Fp K H' d v
  | .none, _, h => by simpa only [Fp] using h
  | .bool _, _, h => by simpa only [Fp] using h
  | .int _, _, h => by simpa only [Fp] using h
  | .str _, _, h => by simpa only [Fp] using h
  | .list ds, _, h => by
    simp only [Fp] at h ⊢
    obtain ⟨a, xs, r, s, t⟩ := h
    exact ⟨a, xs, r, s.kp e, FpL.kp e ds xs t⟩
  | .tuple ds, _, h => by
    simp only [Fp] at h ⊢
    obtain ⟨a, xs, r, s, t⟩ := h
    exact ⟨a, xs, r, SqT.kp e s, FpL.kp e ds xs t⟩
  | .dict _, _, h => by
    simp only [Fp] at h
theorem FpL.kp {K M H H'} (e : Kp M H H') : ∀ (ds : List PyData) (xs : List V), FpL K H ds xs → FpL K H' ds xs
  | [], _, h => by simpa only [FpL] using h
  | d :: ds, xs, h => by
    simp only [FpL] at h ⊢
    obtain ⟨v, vs, r, s, t⟩ := h
    exact ⟨v, vs, r, Fp.kp e d v s, FpL.kp e ds vs t⟩
end
mutual
theorem Fp.dp {K H} : ∀ (d : PyData) (v : V), Fp K H d v → Dp K H v d
  | .none, _, h => by simp only [Fp] at h; subst h; exact .non
  | .bool _, _, h => by simp only [Fp] at h; subst h; exact .bl _
  | .int _, _, h => by simp only [Fp] at h; subst h; exact .int _
  | .str _, _, h => by simp only [Fp] at h; subst h; exact .str _
  | .list ds, _, h => by
    simp only [Fp] at h
    obtain ⟨a, xs, rfl, s, t⟩ := h
    exact .lst s.l (FpL.dp ds xs t)
  | .tuple ds, _, h => by
    simp only [Fp] at h
    obtain ⟨a, xs, rfl, s, t⟩ := h
    exact .tup s (FpL.dp ds xs t)
  | .dict _, _, h => by simp only [Fp] at h
theorem FpL.dp {K H} : ∀ (ds : List PyData) (xs : List V), FpL K H ds xs → DpAll K H xs ds
  | [], _, h => by simp only [FpL] at h; subst h; exact .nil
  | d :: ds, xs, h => by
    simp only [FpL] at h
    obtain ⟨v, vs, rfl, s, t⟩ := h
    exact .cons (Fp.dp d v s) (FpL.dp ds vs t)
end
theorem FpL.len {K H} : ∀ {ds : List PyData} {xs : List V}, FpL K H ds xs → xs.length = ds.length
  | [], _, h => by simp only [FpL] at h; subst h; rfl
  | d :: ds, xs, h => by
    simp only [FpL] at h
    obtain ⟨v, vs, rfl, _, t⟩ := h
    simp [FpL.len t]
theorem FpL.get {K H} : ∀ {ds : List PyData} {xs : List V} {i : Nat} {d : PyData}, FpL K H ds xs → ds[i]? = some d → ∃ v, xs[i]? = some v ∧ Fp K H d v
  | [], _, _, _, _, e => by simp at e
  | d :: ds, xs, 0, d', h, e => by
    simp only [FpL] at h
    obtain ⟨v, vs, rfl, s, t⟩ := h
    simp at e
    subst e
    exact ⟨v, rfl, s⟩
  | d :: ds, xs, i + 1, d', h, e => by
    simp only [FpL] at h
    obtain ⟨v, vs, rfl, s, t⟩ := h
    obtain ⟨u, h1, h2⟩ := FpL.get (i := i) t (by simpa using e)
    exact ⟨u, by simpa using h1, h2⟩
theorem FpL.app {K H} : ∀ {ds es : List PyData} {xs ys : List V}, FpL K H ds xs → FpL K H es ys → FpL K H (ds ++ es) (xs ++ ys)
  | [], _, _, _, h, g => by simp only [FpL] at h; subst h; exact g
  | d :: ds, es, xs, ys, h, g => by
    simp only [FpL] at h
    obtain ⟨v, vs, rfl, s, t⟩ := h
    show FpL K H (d :: (ds ++ es)) (v :: (vs ++ ys))
    simp only [FpL]
    exact ⟨v, _, rfl, s, FpL.app t g⟩
theorem FpL.one {K H d v} (h : Fp K H d v) : FpL K H [d] [v] := by
  simp only [FpL]
  exact ⟨v, [], rfl, h, rfl⟩
theorem FpL.ints {K H} : ∀ (ns : List Int), FpL K H (ns.map PyData.int) (ns.map V.int)
  | [] => by simp only [List.map_nil, FpL]
  | n :: ns => by
    simp only [List.map_cons, FpL]
    exact ⟨_, _, rfl, by simp only [Fp], FpL.ints ns⟩
end BL

set_option Elab.async false
set_option linter.all false
set_option maxRecDepth 100000
set_option maxHeartbeats 2000000
/-! ## Union rules: one rule an operation, whatever the kinds (own text) -/
namespace BL
open PySem PySem.Spec PyProof.Rows L2
section
variable {X : Cx}
/-! ### list + list, of lists that may be read -/
theorem rd_lst {pins : List (Addr × Obj)} {s : Shared} {σ : L2.St} {H : Hp} {a : Addr} {xs : List V} (I : Inv X pins σ H s) (h : Rd H a (.lst xs)) :
    xs.length ≤ sizeLine ∧ ∃ (its : List Value) (n : Nat), Vals xs its ∧ s.heap.get? a = some { cls := .type "list", data := .seq its.toArray n } := h.ok I.hok
def rCatL : R2 := fun x y H Q => ∃ l b xs zs, x = .ref l ∧ y = .ref b ∧ Rd H l (.lst xs) ∧ Rd H b (.lst zs) ∧ xs.length + zs.length ≤ sizeLine ∧ ∀ p, H p = none → Q (.ref p) (upd H p (.lst (xs ++ zs)))
theorem op_catL : OpR X (binaryOp .Add) rCatL := by
  intro pins s σ H x y v u Q I rx ry h
  obtain ⟨l, b, xs, zs, rfl, rfl, hH, hB, hz, q⟩ := h
  cases rx
  cases ry
  obtain ⟨z, its, n, r, e⟩ := rd_lst I hH
  obtain ⟨z2, its2, n2, r2, e2⟩ := rd_lst I hB
  have hl := r.length
  have hl2 := r2.length
  refine PySem.P.add_list e e2 ?_ (by rw [List.size_toArray, List.size_toArray]; omega)
  have ea : its.toArray ++ its2.toArray = (its ++ its2).toArray := by simp
  rw [ea]
  exact ⟨.ref _, _, I.lnew (t' := s.toks) (r.append r2) (by rw [List.length_append]; omega), rfl, q _ I.fresh⟩
/-! ### + -/
def uAdd (K : PySem.W.Frag) : R2 := fun x y H Q => rI0 (fun i j => .int (i + j)) x y H Q ∨ (∃ i j, x = .str i ∧ y = .str j ∧ i.length + j.length ≤ sizeLine ∧ Q (.str (i ++ j)) H) ∨ rCatL x y H Q ∨ rCatA K x y H Q
theorem u_add : OpR X (binaryOp .Add) (uAdd X.K) := op_add.or (op_add_str.or (op_catL.or op_catA))
/-! ### * -/
def uMul (K : PySem.W.Frag) : R2 := fun x y H Q => rI CMul (fun i j => .int (i * j)) x y H Q ∨ rRep x y H Q
theorem u_mul : OpR X (binaryOp .Mult) (uMul X.K) := op_mul.or op_rep
def uSub : R2 := rI0 fun i j => .int (i - j)
theorem u_sub : OpR X (binaryOp .Sub) uSub := op_sub
def uFdiv : R2 := rI CDiv fun i j => .int (i / j)
theorem u_fdiv : OpR X (binaryOp .FloorDiv) uFdiv := op_fdiv
def uMod : R2 := rI (fun _ j => 0 < j) fun i j => .int (i % j)
theorem u_mod : OpR X (binaryOp .Mod) uMod := op_mod
def uPow : R2 := rI CPow fun i j => .int (i ^ j.toNat)
theorem u_pow : OpR X (binaryOp .Pow) uPow := op_pow
/-! ### comparisons -/
def uEq (K : PySem.W.Frag) : R2 := fun x y H Q => rEq x y H Q ∨ rEqD K x y H Q
theorem u_eq (hu : X.A.units + 64 < cLine) : OpR X (compareOp .Eq) (uEq X.K) := op_eq.or (op_eqD hu)
def uNe (K : PySem.W.Frag) : R2 := fun x y H Q => rNe x y H Q ∨ rNeD K x y H Q
theorem u_ne (hu : X.A.units + 64 < cLine) : OpR X (compareOp .NotEq) (uNe X.K) := op_ne.or (op_neD hu)
def uLt : R2 := rI0 fun i j => .bl (decide (i < j))
theorem u_lt : OpR X (compareOp .Lt) uLt := op_lt
def uLe : R2 := fun x y H Q => rI0 (fun i j => .bl (decide (i ≤ j))) x y H Q ∨ (∃ i j, x = .str i ∧ y = .str j ∧ Q (.bl (!decide (j.cps.toList < i.cps.toList))) H)
theorem u_le : OpR X (compareOp .LtE) uLe := op_le.or op_le_str
def uGt : R2 := rI0 fun i j => .bl (decide (j < i))
theorem u_gt : OpR X (compareOp .Gt) uGt := op_gt
def uGe : R2 := rI0 fun i j => .bl (decide (j ≤ i))
theorem u_ge : OpR X (compareOp .GtE) uGe := op_ge
def uIs : R2 := fun x y H Q => (y = .non ∧ Q (.bl (decide (x = .non))) H)
theorem u_is : OpR X (compareOp .Is) uIs := op_isN
def uIsnt : R2 := fun x y H Q => (y = .non ∧ Q (.bl (!decide (x = .non))) H)
theorem u_isnt : OpR X (compareOp .IsNot) uIsnt := op_notN
/-! ### subscripts -/
def uIx (K : PySem.W.Frag) : R2 := rIx K
/-! ### what a for walks: a list or a tuple -/
def uLen (K : PySem.W.Frag) : List V → Hp → VK → Prop := fun xs H Q => ∃ x n, xs = [x] ∧ LenV K x H n ∧ Q (.int n) H
theorem u_len : CallR X (.builtin "len") (uLen X.K) := call_len
def uInt : List V → Hp → VK → Prop := fun xs H Q => (∃ i, xs = [.int i] ∧ Q (.int i) H) ∨ ∃ k, xs = [.bl k] ∧ Q (.int (if k then 1 else 0)) H
theorem u_int : CallR X (.type "int") uInt := call_int1
def uList (K : PySem.W.Frag) : List V → Hp → VK → Prop := fun xs H Q => ∃ p ys, xs = [.ref p] ∧ (SqL K H p ys ∨ SqT K H p ys) ∧ ∀ l, H l = none → Q (.ref l) (upd H l (.lst ys))
theorem u_list : CallR X (.type "list") (uList X.K) := call_list_of
def uTuple (K : PySem.W.Frag) : List V → Hp → VK → Prop := fun xs H Q => ∃ p ys, xs = [.ref p] ∧ ((SqL K H p ys ∧ ∀ l, H l = none → Q (.ref l) (upd H l (.tup ys))) ∨ (SqT K H p ys ∧ Q (.ref p) H))
theorem u_tuple : CallR X (.type "tuple") (uTuple X.K) := call_tuple_of
def uStr : List V → Hp → VK → Prop := fun xs H Q => ∃ i, xs = [.int i] ∧ i.natAbs.log2 < 1920 ∧ Q (.str (toString i)) H
theorem u_str : CallR X (.type "str") uStr := call_str_int
def uMin : List V → Hp → VK → Prop := fun xs H Q => ∃ i j, xs = [.int i, .int j] ∧ Q (.int (if j < i then j else i)) H
theorem u_min (hc : X.calm = true) : CallR X (.builtin "min") uMin := call_min2 hc
def uMax : List V → Hp → VK → Prop := fun xs H Q => ∃ i j, xs = [.int i, .int j] ∧ Q (.int (if j > i then j else i)) H
theorem u_max (hc : X.calm = true) : CallR X (.builtin "max") uMax := call_max2 hc
/-! ### isinstance of data and a built-in type -/
def isT (n : String) : PyData → Option Bool
  | .none => if n = "tuple" ∨ n = "list" ∨ n = "bool" ∨ n = "int" ∨ n = "str" then some false else none
  | .bool _ => if n = "bool" ∨ n = "int" then some true else if n = "tuple" ∨ n = "list" ∨ n = "str" then some false else none
  | .int _ => if n = "int" then some true else if n = "tuple" ∨ n = "list" ∨ n = "bool" ∨ n = "str" then some false else none
  | .str _ => if n = "str" then some true else if n = "tuple" ∨ n = "list" ∨ n = "bool" ∨ n = "int" then some false else none
  | .list _ => if n = "list" then some true else if n = "tuple" ∨ n = "str" ∨ n = "bool" ∨ n = "int" then some false else none
  | .tuple _ => if n = "tuple" then some true else if n = "list" ∨ n = "str" ∨ n = "bool" ∨ n = "int" then some false else none
  | .dict _ => none
def tyN : PyData → String
  | .none => "NoneType"
  | .bool _ => "bool"
  | .int _ => "int"
  | .str _ => "str"
  | .list _ => "list"
  | .tuple _ => "tuple"
  | .dict _ => "dict"
theorem isT_kit {K : PySem.W.Frag} {n : String} {d : PyData} {b : Bool} (h : isT n d = some b) : PySem.W.kitOne K (.type (tyN d)) (.type n) = some b := by
  refine kit_ty ?_
  cases d <;> simp only [isT, tyN] at h ⊢ <;> (repeat' split at h) <;>
    first
    | (cases h; rcases ‹_ ∨ _› with rfl | rfl | rfl | rfl | rfl <;> decide +kernel)
    | (cases h; rcases ‹_ ∨ _› with rfl | rfl | rfl | rfl <;> decide +kernel)
    | (cases h; rcases ‹_ ∨ _› with rfl | rfl | rfl <;> decide +kernel)
    | (cases h; rcases ‹_ ∨ _› with rfl | rfl <;> decide +kernel)
    | (cases h; subst_vars; decide +kernel)
    | cases h
def uIsi (K : PySem.W.Frag) : List V → Hp → VK → Prop := fun xs H Q => ∃ v d n b, xs = [v, .ty n] ∧ Dp K H v d ∧ isT n d = some b ∧ Q (.bl b) H
theorem u_isi : CallR X (.builtin "isinstance") (uIsi X.K) := by
  intro pins s σ H xs us Q I r h
  obtain ⟨v, d, n, b, rfl, hd, e, q⟩ := h
  obtain ⟨u1, u2, rfl, r1, r2⟩ := vals2 r
  cases (show u2 = Value.type n from r2)
  have k := isT_kit (K := X.K) e
  have fin : ∀ tk, EP X pins σ Q (.bool b) { s with toks := tk } := fun tk => ⟨.bl b, H, I.tok tk, rfl, q⟩
  cases d with
  | none =>
    cases hd
    cases (show u1 = Value.none from r1)
    exact PySem.W.kia_one PySem.W.kitx_none I.kIn True.intro k (fun z => nomatch z) fin
  | bool y =>
    cases hd
    cases (show u1 = Value.bool y from r1)
    exact PySem.W.kia_one PySem.W.kitx_bool I.kIn True.intro k (fun z => nomatch z) fin
  | int i =>
    cases hd
    obtain ⟨t, rfl⟩ := (show ∃ t, u1 = Value.int i t from r1)
    exact PySem.W.kia_one PySem.W.kitx_int I.kIn True.intro k (fun z => nomatch z) fin
  | str y =>
    cases hd
    obtain ⟨t, rfl⟩ := (show ∃ t, u1 = Value.str y t from r1)
    exact PySem.W.kia_one PySem.W.kitx_str I.kIn True.intro k (fun z => nomatch z) fin
  | list ds =>
    cases hd with
    | lst hs ha =>
      cases r1
      obtain ⟨its, rv, ⟨o, n, ho, hc, _, hd⟩, _⟩ := I.list hs
      exact PySem.W.kia_one PySem.W.kitx_list I.kIn ⟨o, ho, hc⟩ k (fun z => nomatch z) fin
  | tuple ds =>
    cases hd with
    | tup hs ha =>
      cases r1
      obtain ⟨its, rv, ⟨o, ho, hc, n, hd⟩, _⟩ := I.tuple hs
      exact PySem.W.kia_one PySem.W.kitx_tuple I.kIn ⟨o, ho, hc⟩ k (fun z => nomatch z) fin
  | dict _ => cases hd
/-! ### freezing -/
/-- the value may be frozen: a list that nobody changes any more -/
def tFrz (t : TE) : TE := fun σ H Q => t σ H fun v H1 => Q v H1 ∨ ∃ a xs, v = .ref a ∧ H1 a = some (.lst xs) ∧ ∀ o, Q v (upd H1 a (.frz o (.lst xs)))
theorem pe_frz {e : Expr} {t : TE} (h : PE X e t) : PE X e (tFrz t) := by
  refine ⟨fun pins s σ H Q I hw => ?_⟩
  refine thn (h.run pins s σ H _ I hw) fun u s1 ⟨v, H1, I1, r, q⟩ => ?_
  rcases q with q | ⟨a, xs, rfl, ha, q⟩
  · exact ⟨v, H1, I1, r, q⟩
  · obtain ⟨o, I2⟩ := I1.lock ha trivial
    exact ⟨.ref a, _, I2, r, q o⟩
/-! ### for over a list or a tuple -/
/-- a sequence that may be read -/
def Sq (K : PySem.W.Frag) (H : Hp) (a : Addr) (xs : List V) : Prop := SqL K H a xs ∨ SqT K H a xs
end
end BL

set_option Elab.async false
set_option linter.all false
set_option maxRecDepth 100000
set_option maxHeartbeats 2000000
/-! ## Readings, step by step (own text) -/
namespace BL
open PySem PySem.Spec PyProof.Rows L2
def Val (te : TE) (σ : L2.St) (H : Hp) (v : V) : Prop := ∀ Q : VK, Q v H → te σ H Q
def Ans (t : TT) (σ : L2.St) (H : Hp) (b : Bool) : Prop := ∀ Q : Bool → Hp → Prop, Q b H → t σ H Q
section
variable {K : PySem.W.Frag} {σ : L2.St} {H : Hp} {Q : VK} {ta tb te : TE} {tt tu : TT} {x y v : V} {QB : Bool → Hp → Prop}
variable {nx bk ct : L2.St → Hp → Prop} {rt : VK} {t u : TS}
/-! ### statements -/
theorem g_seq (h : t ⟨fun σ H => u ⟨nx, rt, bk, ct⟩ σ H, rt, bk, ct⟩ σ H) : tSeq t u ⟨nx, rt, bk, ct⟩ σ H := h
theorem g_next (h : nx σ H) : tNext ⟨nx, rt, bk, ct⟩ σ H := h
theorem g_break (h : bk σ H) : tBreak ⟨nx, rt, bk, ct⟩ σ H := h
theorem g_ret (h : te σ H rt) : tRet te ⟨nx, rt, bk, ct⟩ σ H := h
theorem g_retN (h : rt .non H) : tRetN ⟨nx, rt, bk, ct⟩ σ H := h
theorem g_drop (h : te σ H fun _ H1 => nx σ H1) : tDrop te ⟨nx, rt, bk, ct⟩ σ H := h
theorem g_asg {g : TG} (h : te σ H fun x H1 => g x σ H1 nx) : tAsg te g ⟨nx, rt, bk, ct⟩ σ H := h
theorem g_name {i : Nat} {σ' : L2.St} {QS : L2.St → Hp → Prop} (e : σ.set i (some v) = σ') (h : QS σ' H) : gName i v σ H QS := by
  subst e
  exact h
theorem g_ifs (h : tt σ H fun b H1 => if b = true then t ⟨nx, rt, bk, ct⟩ σ H1 else u ⟨nx, rt, bk, ct⟩ σ H1) : tIfS tt t u ⟨nx, rt, bk, ct⟩ σ H := h
theorem g_cut (Mid : L2.St → Hp → Prop) (h1 : t ⟨Mid, rt, bk, ct⟩ σ H) (h2 : ∀ σ' H', Mid σ' H' → u ⟨nx, rt, bk, ct⟩ σ' H') : C8.tCut t u ⟨nx, rt, bk, ct⟩ σ H := ⟨Mid, h1, h2⟩
/-! ### tests -/
def LT (x : V) (H : Hp) (QB : Bool → Hp → Prop) : Prop := ∃ k, x = .bl k ∧ QB k H
theorem g_test (h : te σ H fun x H1 => LT x H1 QB) : tTest te σ H QB := h
theorem g_tB (h : te σ H fun x H1 => LT x H1 QB) : tB te σ H QB := h
theorem g_LT {b : Bool} (h : QB b H) : LT (.bl b) H QB := ⟨b, rfl, h⟩
def LTru (K : PySem.W.Frag) (x : V) (H : Hp) (QB : Bool → Hp → Prop) : Prop := ∃ k, TruV K x H k ∧ QB k H
/-- the truth of a value -/
def tTr (K : PySem.W.Frag) (ta : TE) : TT := fun σ H Q => ta σ H fun x H' => ∃ k, TruV K x H' k ∧ Q k H'
theorem pt_tr {X : Cx} {a : Expr} {ta : TE} (ha : PE X a ta) (he : ∀ whole, isTrue a X.env whole = (do let v ← whole; standAt a.pos; holding [v] (truthy v)) := by intro _; rfl) : PT X a (tTr X.K ta) := pt_truth ha he
theorem g_tr (h : te σ H fun x H1 => LTru K x H1 QB) : tTr K te σ H QB := h
theorem g_truI {i : Int} (h : QB (decide (i ≠ 0)) H) : LTru K (.int i) H QB := ⟨_, rfl, by
  have e : (i != 0) = decide (i ≠ 0) := by by_cases z : i = 0 <;> simp [z]
  rw [e]; exact h⟩
theorem g_truB {b : Bool} (h : QB b H) : LTru K (.bl b) H QB := ⟨_, rfl, h⟩
theorem g_truN (h : QB false H) : LTru K .non H QB := ⟨_, rfl, h⟩
theorem g_truL {a : Addr} {xs : List V} (hs : SqL K H a xs) (h : QB (decide (0 < xs.length)) H) : LTru K (.ref a) H QB := ⟨_, .inl ⟨xs, hs, rfl⟩, by
  have e : (!xs.isEmpty) = decide (0 < xs.length) := by cases xs <;> simp
  rw [e]; exact h⟩
theorem g_truT {a : Addr} {xs : List V} (hs : SqT K H a xs) (h : QB (decide (0 < xs.length)) H) : LTru K (.ref a) H QB := ⟨_, .inr (.inl ⟨xs, hs, rfl⟩), by
  have e : (!xs.isEmpty) = decide (0 < xs.length) := by cases xs <;> simp
  rw [e]; exact h⟩
theorem g_and (h : tt σ H fun c H1 => if c = true then tu σ H1 QB else QB false H1) : tAnd tt tu σ H QB := h
theorem g_or (h : tt σ H fun c H1 => if c = true then QB true H1 else tu σ H1 QB) : tOr tt tu σ H QB := h
theorem g_not (h : tt σ H fun c H1 => QB (!c) H1) : tNot tt σ H QB := h
theorem g_iteP {c A B : Prop} [Decidable c] (h1 : c → A) (h2 : ¬ c → B) : if decide c = true then A else B := by
  by_cases h : c
  · rw [decide_eq_true h]; exact h1 h
  · rw [decide_eq_false h]; exact h2 h
theorem g_iteN {c A B : Prop} [Decidable c] (h1 : ¬ c → A) (h2 : c → B) : if (!decide c) = true then A else B := by
  by_cases h : c
  · rw [decide_eq_true h]; exact h2 h
  · rw [decide_eq_false h]; exact h1 h
theorem g_iteNN {c A B : Prop} [Decidable c] (h1 : c → A) (h2 : ¬ c → B) : if (!(!decide c)) = true then A else B := by
  rw [Bool.not_not]
  exact g_iteP h1 h2
theorem g_iteT {A B : Prop} (h : A) : if true = true then A else B := by rw [if_pos rfl]; exact h
theorem g_iteF {A B : Prop} (h : B) : if false = true then A else B := by rw [if_neg Bool.false_ne_true]; exact h
theorem g_iteNT {A B : Prop} (h : B) : if (!true) = true then A else B := by rw [Bool.not_true, if_neg Bool.false_ne_true]; exact h
theorem g_iteNF {A B : Prop} (h : A) : if (!false) = true then A else B := by rw [Bool.not_false, if_pos rfl]; exact h
theorem g_iteB {b : Bool} {A B : Prop} (h1 : b = true → A) (h2 : b = false → B) : if b = true then A else B := by
  cases b with
  | true => exact g_iteT (h1 rfl)
  | false => exact g_iteF (h2 rfl)
/-- a test as one truth value: pure -/
theorem g_ifV {b : Bool} (h : Ans tt σ H b) (h1 : b = true → t ⟨nx, rt, bk, ct⟩ σ H) (h2 : b = false → u ⟨nx, rt, bk, ct⟩ σ H) : tIfS tt t u ⟨nx, rt, bk, ct⟩ σ H := by
  refine h _ ?_
  exact g_iteB h1 h2
theorem a_test {b : Bool} (h : Val te σ H (.bl b)) : Ans (tTest te) σ H b := fun _ q => h _ ⟨b, rfl, q⟩
theorem a_tB {b : Bool} (h : Val te σ H (.bl b)) : Ans (tB te) σ H b := fun _ q => h _ ⟨b, rfl, q⟩
theorem a_and {a b : Bool} (h1 : Ans tt σ H a) (h2 : a = true → Ans tu σ H b) : Ans (tAnd tt tu) σ H (a && b) := fun Q q => h1 _ (by
  cases a with
  | true => rw [if_pos rfl]; exact h2 rfl _ q
  | false => rw [if_neg Bool.false_ne_true]; exact q)
theorem a_or {a b : Bool} (h1 : Ans tt σ H a) (h2 : a = false → Ans tu σ H b) : Ans (tOr tt tu) σ H (a || b) := fun Q q => h1 _ (by
  cases a with
  | true => rw [if_pos rfl]; exact q
  | false => rw [if_neg Bool.false_ne_true]; exact h2 rfl _ q)
theorem a_not {a : Bool} (h1 : Ans tt σ H a) : Ans (tNot tt) σ H (!a) := fun _ q => h1 _ q
/-- a pure value by its operator -/
def RV2 (r : R2) (x y : V) (H : Hp) (z : V) : Prop := ∀ Q : VK, Q z H → r x y H Q
theorem v_op {r : R2} {z : V} (ha : Val ta σ H x) (hb : Val tb σ H y) (hr : RV2 r x y H z) : Val (tOp r ta tb) σ H z := fun Q q => ha _ (hb _ (hr Q q))
theorem v_var {i : Nat} (h : σ[i]? = some (some v)) : Val (tVar i) σ H v := fun _ q => ⟨v, h, q⟩
theorem v_c : Val (tC v) σ H v := fun _ q => q
/-! ### expressions -/
theorem g_var {i : Nat} (e : σ[i]? = some (some v)) (h : Q v H) : tVar i σ H Q := ⟨v, e, h⟩
theorem g_c (h : Q v H) : tC v σ H Q := h
theorem g_op {r : R2} (h : ta σ H fun x H1 => tb σ H1 fun y H2 => r x y H2 Q) : tOp r ta tb σ H Q := h
theorem g_if (h : tt σ H fun c H1 => if c = true then ta σ H1 Q else tb σ H1 Q) : tIf tt ta tb σ H Q := h
def LB (x : V) (R : Bool → Prop) : Prop := ∃ c, x = .bl c ∧ R c
theorem g_LB {b : Bool} {R : Bool → Prop} (h : R b) : LB (.bl b) R := ⟨b, rfl, h⟩
theorem g_andV (h : ta σ H fun x H1 => LB x fun c => if c = true then tb σ H1 Q else Q (.bl false) H1) : tAndV ta tb σ H Q := h
theorem g_orV (h : ta σ H fun x H1 => LB x fun c => if c = true then Q (.bl true) H1 else tb σ H1 Q) : tOrV ta tb σ H Q := h
theorem g_notV (h : ta σ H fun x H1 => LB x fun c => Q (.bl (!c)) H1) : tNotV ta σ H Q := h
theorem g_un {r : V → Hp → VK → Prop} (h : ta σ H fun x H1 => r x H1 Q) : tUn r ta σ H Q := h
theorem g_neg {i : Int} (h : Q (.int (-i)) H) : rU (fun i => .int (-i)) (.int i) H Q := ⟨i, rfl, h⟩
section
variable {tA : TA} {QL : List V → Hp → Prop}
theorem g_nil (h : QL [] H) : tNil σ H QL := h
theorem g_cons (h : ta σ H fun x H1 => tA σ H1 fun xs H2 => QL (x :: xs) H2) : tCons ta tA σ H QL := h
def NewTup (Q : VK) (xs : List V) (H : Hp) : Prop := xs.length ≤ sizeLine ∧ ∀ p, H p = none → Q (.ref p) (upd H p (.tup xs))
def NewLst (Q : VK) (xs : List V) (H : Hp) : Prop := xs.length ≤ sizeLine ∧ ∀ p, H p = none → Q (.ref p) (upd H p (.lst xs))
theorem g_tup (h : tA σ H fun xs H1 => NewTup Q xs H1) : tTup tA σ H Q := h
theorem g_lst (h : tA σ H fun xs H1 => NewLst Q xs H1) : tLst tA σ H Q := h
theorem g_newT {xs : List V} (hl : xs.length ≤ sizeLine) (h : ∀ p H2, H p = none → Kp [] H H2 → H2 p = some (.tup xs) → Q (.ref p) H2) : NewTup Q xs H := ⟨hl, fun p n => h p _ n (Kp.new n) upd_same⟩
theorem g_newL {xs : List V} (hl : xs.length ≤ sizeLine) (h : ∀ p H2, H p = none → Kp [] H H2 → H2 p = some (.lst xs) → Q (.ref p) H2) : NewLst Q xs H := ⟨hl, fun p n => h p _ n (Kp.new n) upd_same⟩
/-! ### calls -/
theorem g_call {sp : Sp} {E : XK} (h : tA σ H fun vs H1 => sp vs H1 Q E) : tCall sp [] E tA σ H Q := by
  have e : (fun vs H1 => sp (vs ++ []) H1 Q E) = fun vs H1 => sp vs H1 Q E := by
    funext vs H1
    rw [List.append_nil]
  show tA σ H (fun vs H1 => sp (vs ++ []) H1 Q E)
  rw [e]
  exact h
theorem g_cb {r : List V → Hp → VK → Prop} (h : tA σ H fun vs H1 => r vs H1 Q) : tCB r tA σ H Q := h
theorem uLen_L {a : Addr} {xs : List V} (hs : SqL K H a xs) (h : Q (.int xs.length) H) : uLen K [.ref a] H Q := ⟨_, _, rfl, .inl ⟨xs, hs, rfl⟩, h⟩
theorem uLen_T {a : Addr} {xs : List V} (hs : SqT K H a xs) (h : Q (.int xs.length) H) : uLen K [.ref a] H Q := ⟨_, _, rfl, .inr ⟨xs, hs, rfl⟩, h⟩
theorem uLen_S {s : Str} (hs : s.length ≤ sizeLine) (h : Q (.int s.length) H) : uLen K [.str s] H Q := ⟨_, _, rfl, ⟨hs, rfl⟩, h⟩
theorem uInt_I {i : Int} (h : Q (.int i) H) : uInt [.int i] H Q := .inl ⟨i, rfl, h⟩
theorem uInt_B {b : Bool} (h : Q (.int (if b = true then 1 else 0)) H) : uInt [.bl b] H Q := .inr ⟨b, rfl, h⟩
theorem uMin_I {i j : Int} (h : Q (.int (if j < i then j else i)) H) : uMin [.int i, .int j] H Q := ⟨i, j, rfl, h⟩
theorem uMax_I {i j : Int} (h : Q (.int (if j > i then j else i)) H) : uMax [.int i, .int j] H Q := ⟨i, j, rfl, h⟩
theorem uStr_I {i : Int} (hz : i.natAbs.log2 < 1920) (h : Q (.str (toString i)) H) : uStr [.int i] H Q := ⟨i, rfl, hz, h⟩
theorem uList_L {a : Addr} {xs : List V} (hs : SqL K H a xs) (h : ∀ p H2, H p = none → Kp [] H H2 → H2 p = some (.lst xs) → Q (.ref p) H2) : uList K [.ref a] H Q := ⟨_, _, rfl, .inl hs, fun p n => h p _ n (Kp.new n) upd_same⟩
theorem uList_T {a : Addr} {xs : List V} (hs : SqT K H a xs) (h : ∀ p H2, H p = none → Kp [] H H2 → H2 p = some (.lst xs) → Q (.ref p) H2) : uList K [.ref a] H Q := ⟨_, _, rfl, .inr hs, fun p n => h p _ n (Kp.new n) upd_same⟩
theorem uTuple_L {a : Addr} {xs : List V} (hs : SqL K H a xs) (h : ∀ p H2, H p = none → Kp [] H H2 → H2 p = some (.tup xs) → Q (.ref p) H2) : uTuple K [.ref a] H Q := ⟨_, xs, rfl, .inl ⟨hs, fun p n => h p _ n (Kp.new n) upd_same⟩⟩
theorem uTuple_T {a : Addr} {xs : List V} (hs : SqT K H a xs) (h : Q (.ref a) H) : uTuple K [.ref a] H Q := ⟨_, xs, rfl, .inr ⟨hs, h⟩⟩
theorem uIsi_D {v : V} {d : PyData} {n : String} {b : Bool} (hd : Fp K H d v) (e : isT n d = some b) (h : Q (.bl b) H) : uIsi K [v, .ty n] H Q := ⟨v, d, n, b, rfl, Fp.dp _ _ hd, e, h⟩
/-! ### freezing -/
def LFrz (Q : VK) (v : V) (H : Hp) : Prop := Q v H ∨ ∃ a xs, v = .ref a ∧ H a = some (.lst xs) ∧ ∀ o, Q v (upd H a (.frz o (.lst xs)))
theorem g_frz (h : te σ H fun v H1 => LFrz Q v H1) : tFrz te σ H Q := h
theorem g_frzNo (h : Q v H) : LFrz Q v H := .inl h
theorem g_frzYes {a : Addr} {xs : List V} (ha : H a = some (.lst xs)) (h : ∀ H2, Kp [a] H H2 → SqF K H2 a xs → Q (.ref a) H2) : LFrz Q (.ref a) H :=
  .inr ⟨a, xs, rfl, ha, fun o => h _ (Kp.mut ha (fun z => z)) (.inl ⟨o, upd_same⟩)⟩
end
/-! ### operators -/
theorem uAdd_I {i j : Int} (h : Q (.int (i + j)) H) : uAdd K (.int i) (.int j) H Q := .inl ⟨i, j, rfl, rfl, h⟩
theorem uAdd_S {i j : Str} (hl : i.length + j.length ≤ sizeLine) (h : Q (.str (i ++ j)) H) : uAdd K (.str i) (.str j) H Q := .inr (.inl ⟨i, j, rfl, rfl, hl, h⟩)
theorem uAdd_L {a b : Addr} {xs ys : List V} (h1 : Rd H a (.lst xs)) (h2 : Rd H b (.lst ys)) (hl : xs.length + ys.length ≤ sizeLine) (h : ∀ p H2, H p = none → Kp [] H H2 → H2 p = some (.lst (xs ++ ys)) → Q (.ref p) H2) : uAdd K (.ref a) (.ref b) H Q :=
  .inr (.inr (.inl ⟨a, b, xs, ys, rfl, rfl, h1, h2, hl, fun p n => h p _ n (Kp.new n) upd_same⟩))
theorem uSub_I {i j : Int} (h : Q (.int (i - j)) H) : uSub (.int i) (.int j) H Q := ⟨i, j, rfl, rfl, h⟩
theorem uMul_I {i j : Int} (hc : CMul i j) (h : Q (.int (i * j)) H) : uMul K (.int i) (.int j) H Q := .inl ⟨i, j, rfl, rfl, hc, h⟩
theorem uMul_L {a : Addr} {xs : List V} {k : Int} (ha : H a = some (.lst xs)) (h1 : -(2 ^ 63) ≤ k ∧ k < 2 ^ 63 ∧ xs.length * k.toNat ≤ sizeLine) (h : ∀ p H2, H p = none → Kp [] H H2 → H2 p = some (.lst (List.replicate k.toNat xs).flatten) → Q (.ref p) H2) : uMul K (.ref a) (.int k) H Q :=
  .inr ⟨a, k, xs, rfl, rfl, ha, h1.1, h1.2.1, h1.2.2, fun p n => h p _ n (Kp.new n) upd_same⟩
theorem uFdiv_I {i j : Int} (hc : CDiv i j) (h : Q (.int (i / j)) H) : uFdiv (.int i) (.int j) H Q := ⟨i, j, rfl, rfl, hc, h⟩
theorem uMod_I {i j : Int} (hc : 0 < j) (h : Q (.int (i % j)) H) : uMod (.int i) (.int j) H Q := ⟨i, j, rfl, rfl, hc, h⟩
theorem uPow_I {i j : Int} (hc : CPow i j) (h : Q (.int (i ^ j.toNat)) H) : uPow (.int i) (.int j) H Q := ⟨i, j, rfl, rfl, hc, h⟩
theorem uEq_I {i j : Int} (h : Q (.bl (decide (i = j))) H) : uEq K (.int i) (.int j) H Q := .inl ⟨rfl, by
  have e : decide (V.int i = V.int j) = decide (i = j) := by simp
  rw [e]; exact h⟩
theorem uEq_S {i j : Str} (h : Q (.bl (decide (i = j))) H) : uEq K (.str i) (.str j) H Q := .inl ⟨rfl, by
  have e : decide (V.str i = V.str j) = decide (i = j) := by simp
  rw [e]; exact h⟩
theorem uEq_B {i j : Bool} (h : Q (.bl (decide (i = j))) H) : uEq K (.bl i) (.bl j) H Q := .inl ⟨rfl, by
  have e : decide (V.bl i = V.bl j) = decide (i = j) := by simp
  rw [e]; exact h⟩
theorem uEq_D {d e : PyData} (h1 : Fp K H d x) (h2 : Fp K H e y) (s1 : SeqAt.shaped d = true) (s2 : SeqAt.shaped e = true) (h : Q (.bl (PyData.eqv d e)) H) : uEq K x y H Q := .inr ⟨d, e, Fp.dp _ _ h1, Fp.dp _ _ h2, s1, s2, h⟩
theorem uNe_I {i j : Int} (h : Q (.bl (!decide (i = j))) H) : uNe K (.int i) (.int j) H Q := .inl ⟨rfl, by
  have e : decide (V.int i = V.int j) = decide (i = j) := by simp
  rw [e]; exact h⟩
theorem uNe_S {i j : Str} (h : Q (.bl (!decide (i = j))) H) : uNe K (.str i) (.str j) H Q := .inl ⟨rfl, by
  have e : decide (V.str i = V.str j) = decide (i = j) := by simp
  rw [e]; exact h⟩
theorem uNe_B {i j : Bool} (h : Q (.bl (!decide (i = j))) H) : uNe K (.bl i) (.bl j) H Q := .inl ⟨rfl, by
  have e : decide (V.bl i = V.bl j) = decide (i = j) := by simp
  rw [e]; exact h⟩
theorem uNe_D {d e : PyData} (h1 : Fp K H d x) (h2 : Fp K H e y) (s1 : SeqAt.shaped d = true) (s2 : SeqAt.shaped e = true) (h : Q (.bl (!PyData.eqv d e)) H) : uNe K x y H Q := .inr ⟨d, e, Fp.dp _ _ h1, Fp.dp _ _ h2, s1, s2, h⟩
theorem uLt_I {i j : Int} (h : Q (.bl (decide (i < j))) H) : uLt (.int i) (.int j) H Q := ⟨i, j, rfl, rfl, h⟩
theorem uGt_I {i j : Int} (h : Q (.bl (decide (j < i))) H) : uGt (.int i) (.int j) H Q := ⟨i, j, rfl, rfl, h⟩
theorem uGe_I {i j : Int} (h : Q (.bl (decide (j ≤ i))) H) : uGe (.int i) (.int j) H Q := ⟨i, j, rfl, rfl, h⟩
theorem uLe_I {i j : Int} (h : Q (.bl (decide (i ≤ j))) H) : uLe (.int i) (.int j) H Q := .inl ⟨i, j, rfl, rfl, h⟩
theorem uIs_N (h : Q (.bl (decide (x = .non))) H) : uIs x .non H Q := ⟨rfl, h⟩
theorem uIsnt_N (h : Q (.bl (!decide (x = .non))) H) : uIsnt x .non H Q := ⟨rfl, h⟩
/-! ### subscripts -/
theorem u_ix {X : Cx} : IxR X (uIx X.K) := ix_seq
theorem uIx_L {a : Addr} {xs : List V} {i : Int} (hs : SqL K H a xs) (e : atI xs i = some v) (h : Q v H) : uIx K (.ref a) (.int i) H Q := .inl ⟨a, xs, i, v, rfl, rfl, hs, e, h⟩
theorem uIx_T {a : Addr} {xs : List V} {i : Int} (hs : SqT K H a xs) (e : atI xs i = some v) (h : Q v H) : uIx K (.ref a) (.int i) H Q := .inr (.inl ⟨a, xs, i, v, rfl, rfl, hs, e, h⟩)
theorem uIx_S {s : Str} {i : Int} {c : Nat} (hl : s.length ≤ sizeLine) (e : atI s.cps.toList i = some c) (h : Q (.str ⟨#[c]⟩) H) : uIx K (.str s) (.int i) H Q := .inr (.inr ⟨s, i, c, rfl, rfl, hl, e, h⟩)
/-! ### stores -/
def LSet (QS : L2.St → Hp → Prop) (σ : L2.St) (o i v : V) (H : Hp) : Prop := rSetL o i v H fun H3 => QS σ H3
theorem g_sub {to ti : TE} {QS : L2.St → Hp → Prop} (h : to σ H fun o H1 => ti σ H1 fun i H2 => LSet QS σ o i v H2) : gSub to ti rSetL v σ H QS := h
theorem g_setL {QS : L2.St → Hp → Prop} {a : Addr} {xs ys : List V} {k : Int} {j : Nat} (ha : H a = some (.lst xs)) (e : ixN xs.length k = some j) (ey : xs.set j v = ys) (h : ∀ H2, Kp [a] H H2 → H2 a = some (.lst ys) → QS σ H2) : LSet QS σ (.ref a) (.int k) v H := by
  subst ey
  exact ⟨a, xs, k, j, rfl, rfl, ha, e, h _ (Kp.mut ha (fun z => z)) upd_same⟩
end
end BL
namespace BL
open PySem PySem.Spec PyProof.Rows L2
/-! ### ways from heap to heap -/
inductive Tr : Hp → Hp → Prop
  | refl (H) : Tr H H
  | step {H H1 H2 M} : Tr H H1 → Kp M H1 H2 → Tr H H2
theorem Tr.fresh {H H' p} (t : Tr H H') (h : H' p = none) : H p = none := by
  induction t with
  | refl => exact h
  | step _ e ih => exact ih (e.fresh h)
def Tk (H : Hp) (a : Addr) : Prop := ∃ o, H a = some o
theorem Tk.kp {M H H' a} (e : Kp M H H') (h : Tk H a) : Tk H' a := let ⟨o, h⟩ := h; e.trk _ _ h
theorem ne_fr {H : Hp} {p q : Addr} (hp : H p = none) (hq : Tk H q) : q ≠ p := let ⟨_, h⟩ := hq; ne_of_none h hp
theorem Kp.stepN {M H0 H H'} (a : Kp M H0 H) (b : Kp [] H H') : Kp M H0 H' := a.step b fun _ h => nomatch h
theorem Kp.step1 {M p H0 H H'} (a : Kp M H0 H) (b : Kp [p] H H') (s : p ∈ M ∨ H0 p = none) : Kp M H0 H' := a.step b fun m h => by
  rw [List.mem_singleton.mp h]
  exact s
end BL
namespace BL
open PySem PySem.Spec PyProof.Rows L2
/-! ### defs as they are called -/
section
variable {P : Program} {w : World} {K : PySem.W.Frag} {mg : Str → Option Value} {base : Heap}
/-- the def at f keeps its promise sp at level k, called by position -/
structure Cal (P : Program) (w : World) (K : PySem.W.Frag) (mg : Str → Option Value) (base : Heap) (CX : CXT) (k : Nat) (f : Addr) (ps : List Str) (sp : Sp) : Prop where
  ex : ∃ fd, FnOk P w K mg base CX k f fd ps sp ∧ Binds K fd ps []
  kp : PySem.W.keepIn K (.ref f) = true
theorem Cal.mono {CX k j f ps sp} (C : Cal P w K mg base CX k f ps sp) (h : k ≤ j) : Cal P w K mg base CX j f ps sp := let ⟨fd, F, b⟩ := C.ex; ⟨⟨fd, F.mono h, b⟩, C.kp⟩
theorem Cal.imp {CX k f ps} {sp sp' : Sp} (C : Cal P w K mg base CX k f ps sp) (h : ∀ vs H Q E, sp' vs H Q E → sp vs H Q E) : Cal P w K mg base CX k f ps sp' := let ⟨fd, F, b⟩ := C.ex; ⟨⟨fd, F.imp h, b⟩, C.kp⟩
variable {X : Cx} {CX : CXT} {k : Nat} {f : Addr} {ps : List Str} {sp : Sp} {x : Str} {p pos : Pos} {e : Expr} {es : List Expr} {t : TA}
theorem pc_call (C : Cal X.prog X.w X.K X.mg X.base CX0 k f ps sp) (hr : Room k X.A) (hg : Gl X x) (hm : X.mg x = some (.ref f)) (ha : PA X (e :: es) t)
    (hdb : (x == ("__debug__" : Str)) = false := by decide +kernel) (he : starEach (e :: es) X.env = (false, eval e X.env) :: starEach es X.env := by rfl) (hpl : (backTo pos (starEach es X.env)).any (·.1) = false := by rfl) :
    PE X (.Call (.Name x p) (e :: es) [] pos) (tCall sp [] E0 t) := by
  obtain ⟨fd, F, b⟩ := C.ex
  exact pe_call F hr hg hm C.kp b .nil pass0 ha hdb he hpl
theorem pc_call0 (C : Cal X.prog X.w X.K X.mg X.base CX0 k f ps sp) (hr : Room k X.A) (hg : Gl X x) (hm : X.mg x = some (.ref f))
    (hdb : (x == ("__debug__" : Str)) = false := by decide +kernel) : PE X (.Call (.Name x p) [] [] pos) (tCall sp [] E0 tNil) := by
  obtain ⟨fd, F, b⟩ := C.ex
  exact pe_call0 F hr hg hm C.kp b .nil pass0 hdb
/-- THE RULE for a def that lets no exception out -/
theorem Cal.of {xn qual : Str} {params : Arguments} {body : List Stmt} {scope : Scope} {fd : FuncData} {N : List Str} (F : FunD K xn qual params body scope [] [] f fd) (b : Binds K fd ps []) (S : FnScope N ps scope)
    (len : ∀ vs H Q E, sp vs H Q E → vs.length = ps.length)
    (hbody : ∀ (cdv : Value) (A : Around) (outer : List Env) (s : Shared) (H : Hp) (vs : List V) (Q : VK) (E : XK), Room k (A.deeper (envOfC qual scope s.heap.objs.size f cdv)) → sp vs H Q E →
      ∃ t, PSs (cxOf CX0 P w K mg base N qual scope f cdv A outer s H E).nox body t ∧ t ⟨fun _ H' => Q .non H', Q, fun _ _ => False, fun _ _ => False⟩ (start N vs) H) : Cal P w K mg base CX0 (k + 1) f ps sp := by
  refine ⟨⟨fd, F.ok S len fun cdv A outer s H vs Q E hr hsp => ?_, b⟩, F.kp⟩
  obtain ⟨t, h, q⟩ := hbody cdv A outer s H vs Q E hr hsp
  exact ⟨t, h.nox, q⟩
theorem g_start {N : List Str} {vs : List V} {σ : L2.St} {H : Hp} {t : TS} {D : Ends} (e : start N vs = σ) (h : t D σ H) : t D (start N vs) H := by
  rw [e]
  exact h
end
end BL
namespace BL
open PySem PySem.Spec PyProof.Rows L2
/-! ### the pool of a law's draws -/
def big : Nat := 2 ^ 1048576
/-- a pool at p with the budget e -/
def PoolAt (K : PySem.W.Frag) (H : Hp) (p : Addr) (e : Int) : Prop :=
  ∃ (l : Addr) (ns : List Int) (a b c d : Int), H p = some (.lst [.ref l, .int a, .int b, .int c, .int d, .int e]) ∧ SqF K H l (ns.map V.int) ∧ ns.length ≤ 63 ∧ 0 ≤ a ∧ 0 ≤ c ∧ c < 2147483647
theorem PoolAt.k0 {K H H' p e} (s : Kp [] H H') (h : PoolAt K H p e) : PoolAt K H' p e := by
  obtain ⟨l, ns, a, b, c, d, h1, h2, h3⟩ := h
  exact ⟨l, ns, a, b, c, d, s.at0 h1, h2.kp s, h3⟩
theorem PoolAt.k1 {K H H' p q e} (s : Kp [q] H H') (n : p ≠ q) (h : PoolAt K H p e) : PoolAt K H' p e := by
  obtain ⟨l, ns, a, b, c, d, h1, h2, h3⟩ := h
  exact ⟨l, ns, a, b, c, d, s.at1 n h1, h2.kp s, h3⟩
theorem PoolAt.tk {K H p e} (h : PoolAt K H p e) : Tk H p := let ⟨_, _, _, _, _, _, h1, _⟩ := h; ⟨_, h1⟩
end BL
namespace BL
open PySem PySem.Spec PyProof.Rows L2
theorem cx_K {CX : CXT} {P : Program} {w : World} {K : PySem.W.Frag} {mg : Str → Option Value} {base : Heap} {N : List Str} {q : Str} {sc : Scope} {f : Addr} {cd : Value} {A : Around} {outer : List Env} {s : Shared} {H : Hp} {E : XK} : (cxOf CX P w K mg base N q sc f cd A outer s H E).nox.K = K := rfl
end BL
namespace BL
open PySem PySem.Spec PyProof.Rows L2
theorem atI_some {α : Type} {xs : List α} {i : Int} (h0 : 0 ≤ i) (h1 : i < xs.length) : ∃ v, atI xs i = some v ∧ v ∈ xs ∧ xs[i.toNat]? = some v := by
  obtain ⟨n, rfl⟩ := Int.eq_ofNat_of_zero_le h0
  have hn : n < xs.length := by omega
  exact ⟨xs[n], atI_nat (List.getElem?_eq_getElem hn), List.getElem_mem _, by simp [List.getElem?_eq_getElem hn]⟩
theorem uIx_LI {K : PySem.W.Frag} {H : Hp} {Q : VK} {l : Addr} {ns : List Int} {i : Int} (hs : SqL K H l (ns.map V.int)) (h0 : 0 ≤ i) (h1 : i < (ns.map V.int).length) (h : ∀ x, x ∈ ns → Q (.int x) H) : uIx K (.ref l) (.int i) H Q := by
  obtain ⟨v, e, m, _⟩ := atI_some h0 h1
  obtain ⟨x, hx, rfl⟩ := List.mem_map.mp m
  exact uIx_L hs e (h x hx)
end BL
namespace BL
open PySem PySem.Spec PyProof.Rows L2
theorem Tr.step' {H H1 H2 M} (b : Kp M H1 H2) (a : Tr H H1) : Tr H H2 := a.step b
theorem Tr.fresh' {H H' p} (h : H' p = none) (t : Tr H H') : H p = none := t.fresh h
theorem Kp.stepN' {M H0 H H'} (b : Kp [] H H') (a : Kp M H0 H) : Kp M H0 H' := a.stepN b
theorem Kp.step1' {M p H0 H H'} (b : Kp [p] H H') (s : p ∈ M ∨ H0 p = none) (a : Kp M H0 H) : Kp M H0 H' := a.step1 b s
end BL
namespace BL
open PySem PySem.Spec PyProof.Rows L2
section
variable {K : PySem.W.Frag} {H H' H0 H1 : Hp} {M : List Addr} {a b p q : Addr} {o : HO} {xs : List V} {v : V} {d : PyData} {ds : List PyData} {e : Int}
theorem lk_at0 (ed : Kp [] H H') (nx : H b = some o) : H' b = some o := ed.at0 nx
theorem lk_at1 (ed : Kp [p] H H') (ne : b ≠ p) (nx : H b = some o) : H' b = some o := ed.at1 ne nx
theorem lk_T (ed : Kp M H H') (nx : SqT K H a xs) : SqT K H' a xs := SqT.kp ed nx
theorem lk_T0 (nx : H a = some (.tup xs)) : SqT K H a xs := SqT.of nx
theorem lk_F (ed : Kp M H H') (nx : SqF K H a xs) : SqF K H' a xs := SqF.kp ed nx
theorem lk_LF (nx : SqF K H a xs) : SqL K H a xs := nx.l
theorem lk_L0 (nx : H a = some (.lst xs)) : SqL K H a xs := SqL.of nx
theorem lk_D (ed : Kp M H H') (nx : Fp K H d v) : Fp K H' d v := Fp.kp ed _ _ nx
theorem lk_Ds (ed : Kp M H H') (nx : FpL K H ds xs) : FpL K H' ds xs := FpL.kp ed _ _ nx
theorem lk_P0 (ed : Kp [] H H') (nx : PoolAt K H p e) : PoolAt K H' p e := nx.k0 ed
theorem lk_P1 (ed : Kp [q] H H') (ne : p ≠ q) (nx : PoolAt K H p e) : PoolAt K H' p e := nx.k1 ed ne
theorem lk_R (nx : H a = some o) : Rd H a o := .inl nx
theorem tk_0 (nx : H a = some o) : Tk H a := ⟨o, nx⟩
theorem tk_1 (ed : Kp M H H') (nx : Tk H a) : Tk H' a := nx.kp ed
theorem tk_P (nx : PoolAt K H a e) : Tk H a := nx.tk
theorem tr_1 (ed : Kp M H1 H') (nx : Tr H H1) : Tr H H' := nx.step ed
theorem fr_1 (fr : H' p = none) (nx : Tr H H') : H p = none := nx.fresh fr
theorem kp_0 (ed : Kp [] H H') (nx : Kp M H0 H) : Kp M H0 H' := nx.stepN ed
theorem kp_1 (ed : Kp [p] H H') (fr : p ∈ M ∨ H0 p = none) (nx : Kp M H0 H) : Kp M H0 H' := nx.step1 ed fr
theorem ne_1 (fr : H p = none) (nx : Tk H q) : q ≠ p := ne_fr fr nx
theorem ne_2 (fr : H p = none) (nx : Tk H q) : p ≠ q := (ne_fr fr nx).symm
theorem ne_s (nx : q ≠ p) : p ≠ q := nx.symm
end
end BL
namespace BL
open PySem PySem.Spec PyProof.Rows L2
section
variable {K : PySem.W.Frag} {σ : L2.St} {H : Hp} {tt tu : TT} {te : TE} {nx bk ct : L2.St → Hp → Prop} {rt : VK} {t u : TS} {v : V} {a b : Bool}
theorem g_ifA (hA : Ans (tAnd tt tu) σ H b) (h1 : b = true → t ⟨nx, rt, bk, ct⟩ σ H) (h2 : b = false → u ⟨nx, rt, bk, ct⟩ σ H) : tIfS (tAnd tt tu) t u ⟨nx, rt, bk, ct⟩ σ H := g_ifV hA h1 h2
theorem g_ifO (hA : Ans (tOr tt tu) σ H b) (h1 : b = true → t ⟨nx, rt, bk, ct⟩ σ H) (h2 : b = false → u ⟨nx, rt, bk, ct⟩ σ H) : tIfS (tOr tt tu) t u ⟨nx, rt, bk, ct⟩ σ H := g_ifV hA h1 h2
theorem an_t (hV : Val te σ H (.bl b)) : Ans (tTest te) σ H b := a_test hV
theorem an_b (hV : Val te σ H (.bl b)) : Ans (tB te) σ H b := a_tB hV
theorem an_tr (hV : Val te σ H (.bl b)) : Ans (tTr K te) σ H b := fun Q q => hV _ ⟨b, rfl, q⟩
theorem an_gen (h : ∀ QB : Bool → Hp → Prop, QB b H → tt σ H QB) : Ans tt σ H b := h
theorem ba_t {a b : Bool} : (a && b) = true ↔ a = true ∧ b = true := Bool.and_eq_true_iff
theorem ba_f {a b : Bool} : (a && b) = false ↔ ¬ (a = true ∧ b = true) := by cases a <;> cases b <;> simp
theorem bo_t {a b : Bool} : (a || b) = true ↔ a = true ∨ b = true := Bool.or_eq_true_iff
theorem bo_f {a b : Bool} : (a || b) = false ↔ ¬ (a = true ∨ b = true) := by cases a <;> cases b <;> simp
theorem bn_t {a : Bool} : (!a) = true ↔ ¬ a = true := by cases a <;> simp
theorem bn_f {a : Bool} : (!a) = false ↔ a = true := by cases a <;> simp
theorem bd_t {p : Prop} [Decidable p] : decide p = true ↔ p := decide_eq_true_iff
theorem bd_f {p : Prop} [Decidable p] : decide p = false ↔ ¬ p := decide_eq_false_iff_not
theorem bt_t : (true = true) ↔ True := by simp
theorem bf_t : (false = true) ↔ False := by simp
end
end BL
namespace BL
open PySem PySem.Spec PyProof.Rows L2
section
variable {K : PySem.W.Frag} {σ : L2.St} {H : Hp} {Q : VK} {tA : TA} {te : TE} {tb : TS} {g : TG} {nx bk ct : L2.St → Hp → Prop} {rt : VK} {v x : V} {a : Addr} {xs : List V}
/-! ### for -/
def ForB (J : It) (g : TG) (tb : TS) (nx : L2.St → Hp → Prop) (rt : VK) (σ : L2.St) (H : Hp) : Prop :=
  ∃ W : Nat → Nat → L2.St → Hp → Prop, (∃ m, W 0 m σ H) ∧ ∀ i m σ H, W i m σ H →
    (J.stop i H ∧ nx σ H) ∨ (J.go i H ∧ ∃ N : L2.St → Hp → Prop, (∀ σ' H', N σ' H' → ∃ m', m' < m ∧ W (i + 1) m' σ' H') ∧ ∀ x H', J.yld i H x H' → g x σ H' fun σ2 H2 => tb ⟨N, rt, nx, N⟩ σ2 H2)
def LForR (g : TG) (tb : TS) (nx : L2.St → Hp → Prop) (rt : VK) (σ : L2.St) (vs : List V) (H : Hp) : Prop := ∃ j : Int, vs = [.int j] ∧ -(2 ^ 62) ≤ j ∧ j < 2 ^ 62 ∧ ForB (Itr 0 j.toNat) g tb nx rt σ H
def LForR2 (g : TG) (tb : TS) (nx : L2.St → Hp → Prop) (rt : VK) (σ : L2.St) (vs : List V) (H : Hp) : Prop := ∃ i j : Int, vs = [.int i, .int j] ∧ (-(2 ^ 62) ≤ i ∧ i < 2 ^ 62 ∧ -(2 ^ 62) ≤ j ∧ j < 2 ^ 62) ∧ ForB (Itr i (j - i).toNat) g tb nx rt σ H
def LForL (K : PySem.W.Frag) (g : TG) (tb : TS) (nx : L2.St → Hp → Prop) (rt : VK) (σ : L2.St) (x : V) (H : Hp) : Prop := ∃ a, x = .ref a ∧ (∃ xs, SqL K H a xs) ∧ ForB (Itl K a) g tb nx rt σ H
def LForT (K : PySem.W.Frag) (g : TG) (tb : TS) (nx : L2.St → Hp → Prop) (rt : VK) (σ : L2.St) (x : V) (H : Hp) : Prop := ∃ a, x = .ref a ∧ (∃ xs, SqT K H a xs) ∧ ForB (Itt K a) g tb nx rt σ H
theorem g_rng (h : tA σ H fun vs H1 => LForR g tb nx rt σ vs H1) : tFor (iRng1 tA) g tb ⟨nx, rt, bk, ct⟩ σ H := h
theorem g_rng2 (h : tA σ H fun vs H1 => LForR2 g tb nx rt σ vs H1) : tFor (iRng2 tA) g tb ⟨nx, rt, bk, ct⟩ σ H := h
theorem g_fl (h : te σ H fun x H1 => LForL K g tb nx rt σ x H1) : tFor (iList K te) g tb ⟨nx, rt, bk, ct⟩ σ H := h
theorem g_ft (h : te σ H fun x H1 => LForT K g tb nx rt σ x H1) : tFor (iTup K te) g tb ⟨nx, rt, bk, ct⟩ σ H := h
theorem g_forR {n : Int} (hb : -(2 ^ 62) ≤ n ∧ n < 2 ^ 62) (Pv : Nat → L2.St → Hp → Prop) (h0 : Pv 0 σ H)
    (hs : ∀ (i : Nat) σ H, (i : Int) < n → Pv i σ H → g (.int i) σ H fun σ2 H2 => tb ⟨Pv (i + 1), rt, nx, Pv (i + 1)⟩ σ2 H2)
    (hd : ∀ σ H, Pv n.toNat σ H → nx σ H) : LForR g tb nx rt σ [.int n] H := by
  refine ⟨n, rfl, hb.1, hb.2, ?_⟩
  refine for_range (lo := 0) (n := n.toNat) (D := ⟨nx, rt, fun _ _ => False, fun _ _ => False⟩) Pv h0 (fun i σ H hi p => ?_) hd
  rw [Int.zero_add]
  exact hs i σ H (by omega) p
theorem g_forR2 {lo n : Int} (hb : -(2 ^ 62) ≤ lo ∧ lo < 2 ^ 62 ∧ -(2 ^ 62) ≤ n ∧ n < 2 ^ 62) (Pv : Nat → L2.St → Hp → Prop) (h0 : Pv 0 σ H)
    (hs : ∀ (i : Nat) σ H, lo + (i : Int) < n → Pv i σ H → g (.int (lo + i)) σ H fun σ2 H2 => tb ⟨Pv (i + 1), rt, nx, Pv (i + 1)⟩ σ2 H2)
    (hd : ∀ σ H, Pv (n - lo).toNat σ H → nx σ H) : LForR2 g tb nx rt σ [.int lo, .int n] H := by
  refine ⟨lo, n, rfl, hb, ?_⟩
  refine for_range (lo := lo) (n := (n - lo).toNat) (D := ⟨nx, rt, fun _ _ => False, fun _ _ => False⟩) Pv h0 (fun i σ H hi p => ?_) hd
  exact hs i σ H (by omega) p
theorem g_forL (hx : SqL K H a xs) (Pv : Nat → L2.St → Hp → Prop) (h0 : Pv 0 σ H) (hl : ∀ i σ' H', i ≤ xs.length → Pv i σ' H' → SqL K H' a xs)
    (hs : ∀ i x σ H, xs[i]? = some x → Pv i σ H → g x σ H fun σ2 H2 => tb ⟨Pv (i + 1), rt, nx, Pv (i + 1)⟩ σ2 H2) (hd : ∀ σ H, Pv xs.length σ H → nx σ H) : LForL K g tb nx rt σ (.ref a) H :=
  ⟨a, rfl, ⟨xs, hx⟩, for_list (K := K) (a := a) (xs := xs) (D := ⟨nx, rt, fun _ _ => False, fun _ _ => False⟩) Pv h0 hl hs hd⟩
theorem g_forT (hx : SqT K H a xs) (Pv : Nat → L2.St → Hp → Prop) (h0 : Pv 0 σ H) (hl : ∀ i σ' H', i ≤ xs.length → Pv i σ' H' → SqT K H' a xs)
    (hs : ∀ i x σ H, xs[i]? = some x → Pv i σ H → g x σ H fun σ2 H2 => tb ⟨Pv (i + 1), rt, nx, Pv (i + 1)⟩ σ2 H2) (hd : ∀ σ H, Pv xs.length σ H → nx σ H) : LForT K g tb nx rt σ (.ref a) H :=
  ⟨a, rfl, ⟨xs, hx⟩, for_tup (K := K) (a := a) (xs := xs) (D := ⟨nx, rt, fun _ _ => False, fun _ _ => False⟩) Pv h0 hl hs hd⟩
/-! ### items by membership -/
theorem uIx_TM {i : Int} (hs : SqT K H a xs) (h0 : 0 ≤ i) (h1 : i < xs.length) (h : ∀ x, x ∈ xs → Q x H) : uIx K (.ref a) (.int i) H Q := by
  obtain ⟨v, e, m, _⟩ := atI_some h0 h1
  exact uIx_T hs e (h v m)
theorem uIx_LM {i : Int} (hs : SqL K H a xs) (h0 : 0 ≤ i) (h1 : i < xs.length) (h : ∀ x, x ∈ xs → Q x H) : uIx K (.ref a) (.int i) H Q := by
  obtain ⟨v, e, m, _⟩ := atI_some h0 h1
  exact uIx_L hs e (h v m)
/-! ### data at an index -/
theorem uIx_TD {i : Int} {ds : List PyData} (hs : SqT K H a xs) (hd : FpL K H ds xs) (h0 : 0 ≤ i) (h1 : i < ds.length) (h : ∀ v d, ds[i.toNat]? = some d → Fp K H d v → Q v H) : uIx K (.ref a) (.int i) H Q := by
  have e1 := FpL.len hd
  obtain ⟨v, e, m, e2⟩ := atI_some (xs := xs) h0 (by omega)
  have h2 : i.toNat < ds.length := by omega
  obtain ⟨u, h3, h4⟩ := FpL.get hd (List.getElem?_eq_getElem h2)
  rw [e2] at h3
  cases h3
  exact uIx_T hs e (h v _ (List.getElem?_eq_getElem h2) h4)
theorem uIx_LD {i : Int} {ds : List PyData} (hs : SqL K H a xs) (hd : FpL K H ds xs) (h0 : 0 ≤ i) (h1 : i < ds.length) (h : ∀ v d, ds[i.toNat]? = some d → Fp K H d v → Q v H) : uIx K (.ref a) (.int i) H Q := by
  have e1 := FpL.len hd
  obtain ⟨v, e, m, e2⟩ := atI_some (xs := xs) h0 (by omega)
  have h2 : i.toNat < ds.length := by omega
  obtain ⟨u, h3, h4⟩ := FpL.get hd (List.getElem?_eq_getElem h2)
  rw [e2] at h3
  cases h3
  exact uIx_L hs e (h v _ (List.getElem?_eq_getElem h2) h4)
theorem uEq_St {i j : Str} (e : i = j) (h : Q (.bl true) H) : uEq K (.str i) (.str j) H Q := uEq_S (by rw [decide_eq_true e]; exact h)
theorem uEq_Sf {i j : Str} (e : ¬ i = j) (h : Q (.bl false) H) : uEq K (.str i) (.str j) H Q := uEq_S (by rw [decide_eq_false e]; exact h)
theorem uNe_St {i j : Str} (e : i = j) (h : Q (.bl false) H) : uNe K (.str i) (.str j) H Q := uNe_S (by rw [decide_eq_true e]; exact h)
theorem uNe_Sf {i j : Str} (e : ¬ i = j) (h : Q (.bl true) H) : uNe K (.str i) (.str j) H Q := uNe_S (by rw [decide_eq_false e]; exact h)
theorem uIs_R {a : Addr} (h : Q (.bl false) H) : uIs (.ref a) .non H Q := ⟨rfl, h⟩
theorem uIs_I {i : Int} (h : Q (.bl false) H) : uIs (.int i) .non H Q := ⟨rfl, h⟩
theorem uIs_S {s : Str} (h : Q (.bl false) H) : uIs (.str s) .non H Q := ⟨rfl, h⟩
theorem uIs_B {b : Bool} (h : Q (.bl false) H) : uIs (.bl b) .non H Q := ⟨rfl, h⟩
theorem uIs_NN (h : Q (.bl true) H) : uIs .non .non H Q := ⟨rfl, h⟩
theorem uIsnt_R {a : Addr} (h : Q (.bl true) H) : uIsnt (.ref a) .non H Q := ⟨rfl, h⟩
theorem uIsnt_I {i : Int} (h : Q (.bl true) H) : uIsnt (.int i) .non H Q := ⟨rfl, h⟩
theorem uIsnt_S {s : Str} (h : Q (.bl true) H) : uIsnt (.str s) .non H Q := ⟨rfl, h⟩
theorem uIsnt_B {b : Bool} (h : Q (.bl true) H) : uIsnt (.bl b) .non H Q := ⟨rfl, h⟩
theorem uIsnt_NN (h : Q (.bl false) H) : uIsnt .non .non H Q := ⟨rfl, h⟩
end
end BL
namespace BL
open PySem PySem.Spec PyProof.Rows L2
theorem Cal.zero {P : Program} {w : World} {K : PySem.W.Frag} {mg : Str → Option Value} {base : Heap} {CX : CXT} {f : Addr} {fd : FuncData} {ps : List Str} {sp : Sp} (b : Binds K fd ps []) (kp : PySem.W.keepIn K (.ref f) = true) (h : ∀ vs H Q E, ¬ sp vs H Q E) : Cal P w K mg base CX 0 f ps sp :=
  ⟨⟨fd, ⟨fun vs H Q E q => (h vs H Q E q).elim, fun A outer s H args us vs Q E _ _ _ _ q => (h vs H Q E q).elim⟩, b⟩, kp⟩
end BL
namespace BL
open PySem PySem.Spec PyProof.Rows L2
def isTb (n : String) (d : PyData) : Bool := (isT n d).getD false
def tyKn (n : String) : Bool := n == "tuple" || n == "list" || n == "bool" || n == "int" || n == "str"
theorem isTb_ok {K : PySem.W.Frag} {H : Hp} {n : String} {d : PyData} {v : V} (h : Fp K H d v) (hn : tyKn n = true) : isT n d = some (isTb n d) := by
  simp only [tyKn, Bool.or_eq_true, beq_iff_eq] at hn
  rcases hn with (((rfl | rfl) | rfl) | rfl) | rfl <;> cases d <;> first | rfl | (simp only [Fp] at h)
theorem uIsi_A {K : PySem.W.Frag} {H : Hp} {Q : VK} {v : V} {d : PyData} {n : String} (hd : Fp K H d v) (hn : tyKn n = true) (h : Q (.bl (isTb n d)) H) : uIsi K [v, .ty n] H Q := uIsi_D hd (isTb_ok hd hn) h
end BL
namespace BL
open PySem PySem.Spec PyProof.Rows L2
theorem Fn.of {P : Program} {w : World} {K : PySem.W.Frag} {mg : Str → Option Value} {base : Heap} {k : Nat} {f : Addr} {ps : List Str} {sp : Sp} {xn qual : Str} {params : Arguments} {body : List Stmt} {scope : Scope} {fd : FuncData} {N : List Str} (F : FunD K xn qual params body scope [] [] f fd) (S : FnScope N ps scope)
    (len : ∀ vs H Q E, sp vs H Q E → vs.length = ps.length)
    (hbody : ∀ (cdv : Value) (A : Around) (outer : List Env) (s : Shared) (H : Hp) (vs : List V) (Q : VK) (E : XK), Room k (A.deeper (envOfC qual scope s.heap.objs.size f cdv)) → sp vs H Q E →
      ∃ t, PSs (cxOf CX0 P w K mg base N qual scope f cdv A outer s H E).nox body t ∧ t ⟨fun _ H' => Q .non H', Q, fun _ _ => False, fun _ _ => False⟩ (start N vs) H) : FnOk P w K mg base CX0 (k + 1) f fd ps sp := by
  refine F.ok S len fun cdv A outer s H vs Q E hr hsp => ?_
  obtain ⟨t, h, q⟩ := hbody cdv A outer s H vs Q E hr hsp
  exact ⟨t, h.nox, q⟩
theorem only_frz {K H a xs} (o : Only H) (h : SqL K H a xs) : SqF K H a xs := by
  rcases h with (h | ⟨u, h⟩) | h
  · rcases o a with z | ⟨u, ys, z⟩
    · rw [h] at z; cases z
    · rw [h] at z; cases z
  · exact .inl ⟨u, h⟩
  · exact .inr h
end BL

set_option Elab.async false
set_option linter.all false
set_option maxRecDepth 100000
set_option maxHeartbeats 2000000
/-! ## The mathematics: what the program computes, in plain Lean (own text) -/
namespace BL
open PySem PySem.Spec PyProof.Rows L2
/-! ### data -/
mutual
def dsame : PyData → PyData → Bool
  | .none, .none => true
  | .bool a, .bool b => decide (a = b)
  | .int a, .int b => decide (a = b)
  | .str a, .str b => decide (a = b)
  | .list as, .list bs => dsameL as bs
  | .tuple as, .tuple bs => dsameL as bs
  | _, _ => false
def dsameL : List PyData → List PyData → Bool
  | [], [] => true
  | a :: as, b :: bs => dsame a b && dsameL as bs
  | _, _ => false
end
mutual
/-- no dict within -/
def plain : PyData → Bool
  | .dict _ => false
  | .list ds => plainL ds
  | .tuple ds => plainL ds
  | _ => true
def plainL : List PyData → Bool
  | [] => true
  | d :: ds => plain d && plainL ds
end
mutual
def dep : PyData → Nat
  | .list ds => depL ds + 1
  | .tuple ds => depL ds + 1
  | _ => 0
def depL : List PyData → Nat
  | [] => 0
  | d :: ds => max (dep d) (depL ds)
end
mutual
theorem dsame_refl : ∀ d : PyData, plain d = true → dsame d d = true
  | .none, _ => rfl
  | .bool _, _ => by simp [dsame]
  | .int _, _ => by simp [dsame]
  | .str _, _ => by simp [dsame]
  | .list ds, h => by simp only [dsame]; exact dsameL_refl ds (by simpa [plain] using h)
  | .tuple ds, h => by simp only [dsame]; exact dsameL_refl ds (by simpa [plain] using h)
  | .dict _, h => by simp [plain] at h
theorem dsameL_refl : ∀ ds : List PyData, plainL ds = true → dsameL ds ds = true
  | [], _ => rfl
  | d :: ds, h => by
    simp only [plainL, Bool.and_eq_true] at h
    simp only [dsameL, Bool.and_eq_true]
    exact ⟨dsame_refl d h.1, dsameL_refl ds h.2⟩
end
mutual
theorem dsame_eq : ∀ a b : PyData, dsame a b = true → a = b
  | .none, b, h => by cases b <;> simp [dsame] at h ⊢
  | .bool _, b, h => by cases b <;> simp [dsame] at h ⊢; exact h
  | .int _, b, h => by cases b <;> simp [dsame] at h ⊢; exact h
  | .str _, b, h => by cases b <;> simp [dsame] at h ⊢; exact h
  | .list as, b, h => by
    cases b with
    | list bs => simp only [dsame] at h; rw [dsameL_eq as bs h]
    | _ => simp [dsame] at h
  | .tuple as, b, h => by
    cases b with
    | tuple bs => simp only [dsame] at h; rw [dsameL_eq as bs h]
    | _ => simp [dsame] at h
  | .dict _, b, h => by cases b <;> simp [dsame] at h
theorem dsameL_eq : ∀ as bs : List PyData, dsameL as bs = true → as = bs
  | [], [], _ => rfl
  | [], _ :: _, h => by simp [dsameL] at h
  | _ :: _, [], h => by simp [dsameL] at h
  | a :: as, b :: bs, h => by
    simp only [dsameL, Bool.and_eq_true] at h
    rw [dsame_eq a b h.1, dsameL_eq as bs h.2]
end
theorem dsameL_take : ∀ (as bs : List PyData) (n : Nat), as.length = bs.length → n ≤ as.length → (dsameL as bs = true ↔ (dsameL (as.take n) (bs.take n) = true ∧ dsameL (as.drop n) (bs.drop n) = true))
  | _, _, 0, _, _ => by simp [dsameL]
  | [], [], n + 1, _, h => by simp at h
  | [], _ :: _, _ + 1, h, _ => by simp at h
  | _ :: _, [], _ + 1, h, _ => by simp at h
  | a :: as, b :: bs, n + 1, h, hn => by
    simp only [List.take_succ_cons, List.drop_succ_cons, dsameL, Bool.and_eq_true]
    rw [dsameL_take as bs n (by simpa using h) (by simpa using hn)]
    constructor
    · rintro ⟨a, b, c⟩; exact ⟨⟨a, b⟩, c⟩
    · rintro ⟨⟨a, b⟩, c⟩; exact ⟨a, b, c⟩
theorem dsameL_get {as bs : List PyData} (h : dsameL as bs = true) {i : Nat} {a b : PyData} (ha : as[i]? = some a) (hb : bs[i]? = some b) : dsame a b = true := by
  have e := dsameL_eq as bs h
  subst e
  rw [ha] at hb
  cases hb
  induction as generalizing i with
  | nil => simp at ha
  | cons c as ih =>
    simp only [dsameL, Bool.and_eq_true] at h
    cases i with
    | zero => simp at ha; subst ha; exact h.1
    | succ i => exact ih (by simpa using ha) h.2
theorem dsameL_all : ∀ {as bs : List PyData}, as.length = bs.length → (∀ (i : Nat) (a b : PyData), as[i]? = some a → bs[i]? = some b → dsame a b = true) → dsameL as bs = true
  | [], [], _, _ => rfl
  | [], _ :: _, h, _ => by simp at h
  | _ :: _, [], h, _ => by simp at h
  | a :: as, b :: bs, h, f => by
    simp only [dsameL, Bool.and_eq_true]
    exact ⟨f 0 a b rfl rfl, dsameL_all (by simpa using h) fun i x y hx hy => f (i + 1) x y (by simpa using hx) (by simpa using hy)⟩
theorem dep_get : ∀ {ds : List PyData} {i : Nat} {d : PyData} {n : Nat}, depL ds ≤ n → ds[i]? = some d → dep d ≤ n
  | [], _, _, _, _, h => by simp at h
  | c :: ds, 0, d, n, h, e => by
    simp only [depL] at h
    simp at e
    subst e
    omega
  | c :: ds, i + 1, d, n, h, e => by
    simp only [depL] at h
    exact dep_get (ds := ds) (i := i) (by omega) (by simpa using e)
theorem plain_get : ∀ {ds : List PyData} {i : Nat} {d : PyData}, plainL ds = true → ds[i]? = some d → plain d = true
  | [], _, _, _, h => by simp at h
  | c :: ds, 0, d, h, e => by
    simp only [plainL, Bool.and_eq_true] at h
    simp at e
    subst e
    exact h.1
  | c :: ds, i + 1, d, h, e => by
    simp only [plainL, Bool.and_eq_true] at h
    exact plain_get (ds := ds) (i := i) h.2 (by simpa using e)
/-! ### the operators -/
inductive Sgn where
  | add | sub | mul | div | mod | lt | eq
  deriving DecidableEq
def Sgn.str : Sgn → Str
  | .add => "+"
  | .sub => "-"
  | .mul => "*"
  | .div => "/"
  | .mod => "mod"
  | .lt => "<"
  | .eq => "="
/-- the value of an operator on two words -/
def Sgn.app : Sgn → Int → Int → Int
  | .add, a, b => (a + b) % 65536
  | .sub, a, b => (a - b) % 65536
  | .mul, a, b => a * b % 65536
  | .div, a, b => if 0 < b then a / b else 0
  | .mod, a, b => if 0 < b then a % b else 0
  | .lt, a, b => if a < b then 1 else 0
  | .eq, a, b => if a = b then 1 else 0
/-- a machine word -/
def Wd (a : Int) : Prop := 0 ≤ a ∧ a < 65536
theorem Sgn.wd (s : Sgn) {a b : Int} (ha : Wd a) (hb : Wd b) : Wd (s.app a b) := by
  obtain ⟨a0, a1⟩ := ha
  obtain ⟨b0, b1⟩ := hb
  cases s <;> simp only [Sgn.app, Wd]
  · omega
  · omega
  · exact ⟨Int.emod_nonneg _ (by omega), Int.emod_lt_of_pos _ (by omega)⟩
  · split
    · rename_i h
      exact ⟨Int.ediv_nonneg a0 b0, by have := Int.ediv_le_self b a0; omega⟩
    · omega
  · split
    · rename_i h
      exact ⟨Int.emod_nonneg _ (by omega), by have := Int.emod_lt_of_pos a h; omega⟩
    · omega
  · split <;> omega
  · split <;> omega
end BL
namespace BL
open PySem PySem.Spec PyProof.Rows L2
theorem q_int {Q : VK} {H : Hp} {a b : Int} (k : Q (.int b) H) (h : a = b) : Q (.int a) H := h ▸ k
theorem q_bl {Q : VK} {H : Hp} {a b : Bool} (k : Q (.bl b) H) (h : a = b) : Q (.bl a) H := h ▸ k
theorem q_v {Q : VK} {H : Hp} {a b : V} (k : Q b H) (h : a = b) : Q a H := h ▸ k
mutual
/-- every list and tuple within is short -/
def small : PyData → Bool
  | .list ds => decide (ds.length ≤ 100000) && smallL ds
  | .tuple ds => decide (ds.length ≤ 100000) && smallL ds
  | .dict _ => false
  | _ => true
def smallL : List PyData → Bool
  | [] => true
  | d :: ds => small d && smallL ds
end
theorem small_get : ∀ {ds : List PyData} {i : Nat} {d : PyData}, smallL ds = true → ds[i]? = some d → small d = true
  | [], _, _, _, h => by simp at h
  | c :: ds, 0, d, h, e => by
    simp only [smallL, Bool.and_eq_true] at h
    simp at e
    subst e
    exact h.1
  | c :: ds, i + 1, d, h, e => by
    simp only [smallL, Bool.and_eq_true] at h
    exact small_get (ds := ds) (i := i) h.2 (by simpa using e)
theorem Fp.small_dict {K H a x} (h : Fp K H a x) : (∀ l, a ≠ .dict l) := by
  intro l e
  subst e
  simp only [Fp] at h
end BL
namespace BL
open PySem PySem.Spec PyProof.Rows L2
theorem sgn_mem {x : V} (h : x ∈ [V.str "+", V.str "-", V.str "*", V.str "/", V.str "mod", V.str "<", V.str "="]) : ∃ s : Sgn, x = .str s.str := by
  simp only [List.mem_cons, List.not_mem_nil, or_false] at h
  rcases h with h | h | h | h | h | h | h
  · exact ⟨.add, h⟩
  · exact ⟨.sub, h⟩
  · exact ⟨.mul, h⟩
  · exact ⟨.div, h⟩
  · exact ⟨.mod, h⟩
  · exact ⟨.lt, h⟩
  · exact ⟨.eq, h⟩
theorem Fp.i {K H} (i : Int) : Fp K H (.int i) (.int i) := by simp only [Fp]
theorem Fp.s {K H} (i : Str) : Fp K H (.str i) (.str i) := by simp only [Fp]
theorem Fp.b {K H} (i : Bool) : Fp K H (.bool i) (.bl i) := by simp only [Fp]
theorem Fp.n {K H} : Fp K H .none .non := by simp only [Fp]
end BL

set_option Elab.async false
set_option linter.all false
set_option maxRecDepth 100000
set_option maxHeartbeats 2000000
/-! ## Lists that grow, slices, comprehensions, instances (own text) -/
namespace BL
open PySem PySem.Spec PyProof.Rows L2
section
variable {K : PySem.W.Frag} {σ : L2.St} {H : Hp} {Q : VK} {tA : TA} {te ta tv : TE} {tb : TS} {g : TG} {nx bk ct : L2.St → Hp → Prop} {rt : VK} {v x y : V} {a : Addr} {xs : List V}
/-! ### methods of lists -/
def LBM (K : PySem.W.Frag) (T : String) (r : V → List V → Hp → VK → Prop) (t : TA) (σ : L2.St) (Q : VK) (x : V) (H : Hp) : Prop := tyV K T x H ∧ t σ H fun xs H2 => r x xs H2 Q
theorem g_bm {T : String} {r : V → List V → Hp → VK → Prop} (h : te σ H fun x H1 => LBM K T r tA σ Q x H1) : tBM K T r te tA σ H Q := h
theorem g_bmL {r : V → List V → Hp → VK → Prop} (hs : SqL K H a xs) (h : tA σ H fun ys H2 => r (.ref a) ys H2 Q) : LBM K "list" r tA σ Q (.ref a) H := ⟨.inl ⟨rfl, xs, hs⟩, h⟩
theorem g_bmS {r : V → List V → Hp → VK → Prop} {s : Str} (h : tA σ H fun ys H2 => r (.str s) ys H2 Q) : LBM K "str" r tA σ Q (.str s) H := ⟨rfl, h⟩
def LBM0 (K : PySem.W.Frag) (T : String) (r : V → List V → Hp → VK → Prop) (Q : VK) (x : V) (H : Hp) : Prop := tyV K T x H ∧ r x [] H Q
theorem g_bm0 {T : String} {r : V → List V → Hp → VK → Prop} (h : te σ H fun x H1 => LBM0 K T r Q x H1) : tBM0 K T r te σ H Q := h
theorem g_bm0L {r : V → List V → Hp → VK → Prop} (hs : SqL K H a xs) (h : r (.ref a) [] H Q) : LBM0 K "list" r Q (.ref a) H := ⟨.inl ⟨rfl, xs, hs⟩, h⟩
theorem m_append (ha : H a = some (.lst xs)) (hl : xs.length < sizeLine) (k : ∀ H3, Kp [a] H H3 → H3 a = some (.lst (xs ++ [y])) → Q .non H3) : rAppend (.ref a) [y] H Q :=
  ⟨a, xs, y, rfl, rfl, ha, hl, k _ (Kp.mut ha (fun z => z)) upd_same⟩
theorem m_pop (ha : H a = some (.lst xs)) (e : xs[xs.length - 1]? = some y) (k : ∀ H3, Kp [a] H H3 → H3 a = some (.lst xs.dropLast) → Q y H3) : rPop (.ref a) [] H Q :=
  ⟨a, xs, y, rfl, rfl, ha, e, k _ (Kp.mut ha (fun z => z)) upd_same⟩
/-! ### slices -/
def uSl (K : PySem.W.Frag) : V → Option Int → Option Int → Hp → VK → Prop := fun x lo hi H Q => rSlL K x lo hi H Q ∨ rSlA K x lo hi H Q ∨ rSlS x lo hi H Q
theorem u_sl {X : Cx} : SlR X (uSl X.K) := sl_list.or (sl_tupA.or sl_str)
def LPart (x : V) (H : Hp) (R : Option Int → Hp → Prop) : Prop := ∃ i, x = .int i ∧ R (some i) H
theorem g_sl {r : V → Option Int → Option Int → Hp → VK → Prop} {tl th : TO} (h : te σ H fun x H1 => tl σ H1 fun l H2 => th σ H2 fun u H3 => r x l u H3 Q) : tSl r te tl th σ H Q := h
theorem g_nopart {R : Option Int → Hp → Prop} (h : R none H) : tNoPart σ H R := h
theorem g_part {R : Option Int → Hp → Prop} (h : te σ H fun x H1 => LPart x H1 R) : tPart te σ H R := h
theorem g_LPart {i : Int} {R : Option Int → Hp → Prop} (h : R (some i) H) : LPart (.int i) H R := ⟨i, rfl, h⟩
theorem uSl_L {lo hi : Option Int} {ys : List V} (hs : SqL K H a xs) (e : cutV xs lo hi = ys) (k : ∀ p H2, H p = none → Kp [] H H2 → H2 p = some (.lst ys) → Q (.ref p) H2) : uSl K (.ref a) lo hi H Q := by
  subst e
  exact .inl ⟨a, xs, rfl, hs, fun p n => k p _ n (Kp.new n) upd_same⟩
theorem uSl_T {lo hi : Option Int} {ys : List V} (hs : SqT K H a xs) (e : cutV xs lo hi = ys) (k : ∀ p H2, Kp [] H H2 → SqT K H2 p ys → Q (.ref p) H2) : uSl K (.ref a) lo hi H Q := by
  refine .inr (.inl ⟨a, xs, rfl, hs, fun hw => k a H (Kp.refl _ _) ?_, fun _ p n => k p _ (Kp.new n) (by rw [← e]; exact SqT.of upd_same)⟩)
  rw [← e]
  unfold cutV
  rw [hw.1, hw.2]
  simpa using hs
theorem uSl_S {lo hi : Option Int} {s : Str} (hl : s.length ≤ sizeLine) (k : Q (.str (cutS s lo hi)) H) : uSl K (.str s) lo hi H Q := .inr (.inr ⟨s, rfl, hl, k⟩)
/-- xs[::-1] -/
theorem g_revL (h : te σ H fun x H1 => ∃ a ys, x = .ref a ∧ SqL K H1 a ys ∧ ∀ p, H1 p = none → Q (.ref p) (upd H1 p (.lst ys.reverse))) : tRevL K te σ H Q := h
def LRev (K : PySem.W.Frag) (Q : VK) (x : V) (H : Hp) : Prop := ∃ a ys, x = .ref a ∧ SqL K H a ys ∧ ∀ p, H p = none → Q (.ref p) (upd H p (.lst ys.reverse))
theorem g_rev (h : te σ H fun x H1 => LRev K Q x H1) : tRevL K te σ H Q := h
theorem g_LRev (hs : SqL K H a xs) (k : ∀ p H2, H p = none → Kp [] H H2 → H2 p = some (.lst xs.reverse) → Q (.ref p) H2) : LRev K Q (.ref a) H := ⟨a, xs, rfl, hs, fun p n => k p _ n (Kp.new n) upd_same⟩
/-! ### comprehensions -/
def LApp (D : Addr) (N : Hp → Prop) (y : V) (H4 : Hp) : Prop := ∃ acc, H4 D = some (.lst acc) ∧ acc.length < sizeLine ∧ N (upd H4 D (.lst (acc ++ [y])))
theorem g_LApp {D : Addr} {acc : List V} {N : Hp → Prop} (nx : H D = some (.lst acc)) (hl : acc.length < sizeLine) (k : ∀ H5, Kp [D] H H5 → H5 D = some (.lst (acc ++ [y])) → N H5) : LApp D N y H :=
  ⟨acc, nx, hl, k _ (Kp.mut nx (fun z => z)) upd_same⟩
def LTurn (te : TE) (vs : List Nat) (σ : L2.St) (D : Addr) (N : Hp → Prop) (σ2 : L2.St) (H2 : Hp) : Prop := wipe σ2 vs = wipe σ vs ∧ tYes σ2 H2 fun b H3 => if b = true then te σ2 H3 (fun y H4 => LApp D N y H4) else N H3
theorem g_turn {vs : List Nat} {D : Addr} {N : Hp → Prop} {σ2 : L2.St} (e : wipe σ2 vs = wipe σ vs) (h : te σ2 H fun y H4 => LApp D N y H4) : LTurn te vs σ D N σ2 H := by
  refine ⟨e, ?_⟩
  show (if true = true then te σ2 H (fun y H4 => LApp D N y H4) else N H)
  rw [if_pos rfl]
  exact h
def LcB (J : It) (g : TG) (te : TE) (vs : List Nat) (σ : L2.St) (Q : VK) (H1 : Hp) : Prop := ∀ D, H1 D = none → ∃ W : Nat → Nat → Hp → Prop, (∃ m, W 0 m (upd H1 D (.lst []))) ∧ ∀ i m H, W i m H →
  (J.stop i H ∧ Q (.ref D) H) ∨ (J.go i H ∧ ∃ Nx : Hp → Prop, (∀ H', Nx H' → ∃ m', m' < m ∧ W (i + 1) m' H') ∧ ∀ x H', J.yld i H x H' → g x (wipe σ vs) H' fun σ2 H2 => LTurn te vs σ D Nx σ2 H2)
def LLcR (g : TG) (te : TE) (vs : List Nat) (σ : L2.St) (Q : VK) (ws : List V) (H : Hp) : Prop := ∃ j : Int, ws = [.int j] ∧ -(2 ^ 62) ≤ j ∧ j < 2 ^ 62 ∧ LcB (Itr 0 j.toNat) g te vs σ Q H
def LLcL (K : PySem.W.Frag) (g : TG) (te : TE) (vs : List Nat) (σ : L2.St) (Q : VK) (x : V) (H : Hp) : Prop := ∃ a, x = .ref a ∧ (∃ xs, SqL K H a xs) ∧ LcB (Itl K a) g te vs σ Q H
def LLcT (K : PySem.W.Frag) (g : TG) (te : TE) (vs : List Nat) (σ : L2.St) (Q : VK) (x : V) (H : Hp) : Prop := ∃ a, x = .ref a ∧ (∃ xs, SqT K H a xs) ∧ LcB (Itt K a) g te vs σ Q H
theorem g_lcr {vs : List Nat} (h : tA σ H fun ws H1 => LLcR g te vs σ Q ws H1) : tLc (iRng1 tA) g tYes te vs σ H Q := h
theorem g_lcl {vs : List Nat} (h : ta σ H fun x H1 => LLcL K g te vs σ Q x H1) : tLc (iList K ta) g tYes te vs σ H Q := h
theorem g_lct {vs : List Nat} (h : ta σ H fun x H1 => LLcT K g te vs σ Q x H1) : tLc (iTup K ta) g tYes te vs σ H Q := h
theorem g_lcR {n : Int} {vs : List Nat} (hb : -(2 ^ 62) ≤ n ∧ n < 2 ^ 62) (Pv : Addr → Nat → Hp → Prop) (h0 : ∀ D H', H D = none → Kp [] H H' → H' D = some (.lst []) → Pv D 0 H')
    (hs : ∀ D (i : Nat) H', H D = none → (i : Int) < n → Pv D i H' → g (.int i) (wipe σ vs) H' fun σ2 H2 => LTurn te vs σ D (Pv D (i + 1)) σ2 H2)
    (hd : ∀ D H', H D = none → Pv D n.toNat H' → Q (.ref D) H') : LLcR g te vs σ Q [.int n] H := by
  refine ⟨n, rfl, hb.1, hb.2, fun D hD => ?_⟩
  refine lc_range (lo := 0) (n := n.toNat) (Pv D) (h0 D _ hD (Kp.new hD) upd_same) (fun i H' hi p => ?_) (fun H' p => hd D H' hD p)
  rw [Int.zero_add]
  exact hs D i H' hD (by omega) p
theorem g_lcL {vs : List Nat} (hx : SqL K H a xs) (Pv : Addr → Nat → Hp → Prop) (h0 : ∀ D H', H D = none → Kp [] H H' → H' D = some (.lst []) → Pv D 0 H') (hl : ∀ D i H', H D = none → i ≤ xs.length → Pv D i H' → SqL K H' a xs)
    (hs : ∀ D i x H', H D = none → xs[i]? = some x → Pv D i H' → g x (wipe σ vs) H' fun σ2 H2 => LTurn te vs σ D (Pv D (i + 1)) σ2 H2)
    (hd : ∀ D H', H D = none → Pv D xs.length H' → Q (.ref D) H') : LLcL K g te vs σ Q (.ref a) H := by
  refine ⟨a, rfl, ⟨xs, hx⟩, fun D hD => ?_⟩
  exact lc_list (K := K) (a := a) (xs := xs) (Pv D) (h0 D _ hD (Kp.new hD) upd_same) (fun i H' hi p => hl D i H' hD hi p) (fun i x H' hi p => hs D i x H' hD hi p) (fun H' p => hd D H' hD p)
theorem g_lcT {vs : List Nat} (hx : SqT K H a xs) (Pv : Addr → Nat → Hp → Prop) (h0 : ∀ D H', H D = none → Kp [] H H' → H' D = some (.lst []) → Pv D 0 H') (hl : ∀ D i H', H D = none → i ≤ xs.length → Pv D i H' → SqT K H' a xs)
    (hs : ∀ D i x H', H D = none → xs[i]? = some x → Pv D i H' → g x (wipe σ vs) H' fun σ2 H2 => LTurn te vs σ D (Pv D (i + 1)) σ2 H2)
    (hd : ∀ D H', H D = none → Pv D xs.length H' → Q (.ref D) H') : LLcT K g te vs σ Q (.ref a) H := by
  refine ⟨a, rfl, ⟨xs, hx⟩, fun D hD => ?_⟩
  exact lc_tup (K := K) (a := a) (xs := xs) (Pv D) (h0 D _ hD (Kp.new hD) upd_same) (fun i H' hi p => hl D i H' hD hi p) (fun i x H' hi p => hs D i x H' hD hi p) (fun H' p => hd D H' hD p)
/-! ### instances -/
def LFld (K : PySem.W.Frag) (f : Str) (Q : VK) (x : V) (H : Hp) : Prop := ∃ a C dx fs v, x = .ref a ∧ H a = some (.ins C dx fs) ∧ Cls K C ∧ NoAttr K C f ∧ fs.lookup f = some v ∧ Q v H
theorem g_fld {f : Str} (h : ta σ H fun x H1 => LFld K f Q x H1) : tFld K ta f σ H Q := h
theorem g_LFld {C dx : Addr} {fs : List (Str × V)} {f : Str} (ha : H a = some (.ins C dx fs)) (cl : Cls K C) (na : NoAttr K C f) (lf : fs.lookup f = some v) (k : Q v H) : LFld K f Q (.ref a) H := ⟨a, C, dx, fs, v, rfl, ha, cl, na, lf, k⟩
def LFSt (K : PySem.W.Frag) (f : Str) (y : V) (nx : L2.St → Hp → Prop) (σ : L2.St) (x : V) (H : Hp) : Prop := ∃ a C dx fs, x = .ref a ∧ H a = some (.ins C dx fs) ∧ Cls K C ∧ NoAttr K C f ∧ fs.length < 1000 ∧ nx σ (upd H a (.ins C dx (putF f y fs)))
theorem g_fst {f : Str} (h : tv σ H fun y H1 => ta σ H1 fun x H2 => LFSt K f y nx σ x H2) : sFld K ta tv f ⟨nx, rt, bk, ct⟩ σ H := h
theorem g_LFSt {C dx : Addr} {fs fs' : List (Str × V)} {f : Str} (ha : H a = some (.ins C dx fs)) (cl : Cls K C) (na : NoAttr K C f) (hl : fs.length < 1000) (ef : putF f y fs = fs') (k : ∀ H2, Kp [a] H H2 → H2 a = some (.ins C dx fs') → nx σ H2) : LFSt K f y nx σ (.ref a) H := by
  subst ef
  exact ⟨a, C, dx, fs, rfl, ha, cl, na, hl, k _ (Kp.mut ha (fun z => z)) upd_same⟩
/-- C(..) -/
def LMk (C : Addr) (sp : Sp) (Q : VK) (E : XK) (vs : List V) (H : Hp) : Prop := ∀ x dx, H x = none → H dx = none → dx ≠ x → sp (.ref x :: (vs ++ [])) (upd (upd H dx (.own x)) x (.ins C dx [])) (fun v H2 => v = .non ∧ Q (.ref x) H2) E
theorem g_make {C : Addr} {sp : Sp} {E : XK} (h : tA σ H fun vs H1 => LMk C sp Q E vs H1) : tMake C sp [] E tA σ H Q := h
theorem g_LMk {C : Addr} {sp : Sp} {E : XK} {vs : List V} (k : ∀ x dx H', H x = none → H dx = none → Kp [] H H' → H' x = some (.ins C dx []) → sp (.ref x :: vs) H' (fun v H2 => v = .non ∧ Q (.ref x) H2) E) : LMk C sp Q E vs H := fun x dx nx ndx ne => by
  rw [List.append_nil]
  refine k x dx _ nx ndx ?_ upd_same
  refine Kp.stepN (Kp.new ndx) (Kp.new ?_)
  rw [upd_ne (Ne.symm ne)]
  exact nx
/-- o.m(..) -/
def LMeth (C : Addr) (m : Str) (sp : Sp) (E : XK) (t : TA) (σ : L2.St) (Q : VK) (x : V) (H : Hp) : Prop := ∃ a dx fs, x = .ref a ∧ H a = some (.ins C dx fs) ∧ fs.lookup m = none ∧ t σ H fun vs H2 => sp (x :: (vs ++ [])) H2 Q E
theorem g_meth {C : Addr} {m : Str} {sp : Sp} {E : XK} (h : ta σ H fun x H1 => LMeth C m sp E tA σ Q x H1) : tMeth C m sp [] E ta tA σ H Q := h
theorem g_LMeth {C dx : Addr} {m : Str} {sp : Sp} {E : XK} {fs : List (Str × V)} (ha : H a = some (.ins C dx fs)) (lf : fs.lookup m = none) (k : tA σ H fun vs H2 => sp (.ref a :: vs) H2 Q E) : LMeth C m sp E tA σ Q (.ref a) H := by
  have e : (fun vs H2 => sp (.ref a :: (vs ++ [])) H2 Q E) = fun vs H2 => sp (.ref a :: vs) H2 Q E := by
    funext vs H1
    rw [List.append_nil]
  refine ⟨a, dx, fs, rfl, ha, lf, ?_⟩
  show tA σ H (fun vs H2 => sp (.ref a :: (vs ++ [])) H2 Q E)
  rw [e]
  exact k
end
section
variable {X : Cx} {CX : CXT} {k : Nat} {f C : Addr} {ps : List Str} {sp : Sp} {x m : Str} {p pos apos : Pos} {e o : Expr} {es : List Expr} {ta : TE} {t : TA}
theorem pc_meth {pl : Sem Bool} (he : PE X o ta) (c : Cls X.K C) (hm : Meth X.K C m f) (Ca : Cal X.prog X.w X.K X.mg X.base CX0 k f ps sp) (hr : Room k X.A) (ha : PA X (e :: es) t)
    (hst : starEach (e :: es) X.env = (false, eval e X.env) :: starEach es X.env := by rfl) (hpl : (backTo pos (starEach es X.env)).any (·.1) = false := by rfl)
    (ht : eval (.Call (.Attribute o m apos) (e :: es) [] pos) X.env = (do
      let ov ← eval o X.env
      standAt apos.atName
      let (f, first) ← holding [ov] (getMethod ov m pl)
      callWith pos f first (backTo pos (starEach (e :: es) X.env)) (backToKw pos (keywordEach [] X.env))) := by rfl) :
    PE X (.Call (.Attribute o m apos) (e :: es) [] pos) (tMeth C m sp [] E0 ta t) := by
  obtain ⟨fd, F, b⟩ := Ca.ex
  exact pe_meth he c hm F hr b .nil pass0 ha hst hpl ht
theorem pc_meth0 {pl : Sem Bool} (he : PE X o ta) (c : Cls X.K C) (hm : Meth X.K C m f) (Ca : Cal X.prog X.w X.K X.mg X.base CX0 k f ps sp) (hr : Room k X.A)
    (ht : eval (.Call (.Attribute o m apos) [] [] pos) X.env = (do
      let ov ← eval o X.env
      standAt apos.atName
      let (f, first) ← holding [ov] (getMethod ov m pl)
      callWith pos f first (backTo pos (starEach [] X.env)) (backToKw pos (keywordEach [] X.env))) := by rfl) :
    PE X (.Call (.Attribute o m apos) [] [] pos) (tMeth C m sp [] E0 ta tNil) := by
  obtain ⟨fd, F, b⟩ := Ca.ex
  exact pe_meth0 he c hm F hr b .nil pass0 ht
theorem pc_make (M : Mk X.K C f) (Ca : Cal X.prog X.w X.K X.mg X.base CX0 k f ps sp) (hr : Room (k + 1) X.A) (hg : Gl X x) (hm : X.mg x = some (.ref C)) (ha : PA X (e :: es) t)
    (hdb : (x == ("__debug__" : Str)) = false := by decide +kernel) (he : starEach (e :: es) X.env = (false, eval e X.env) :: starEach es X.env := by rfl) (hpl : (backTo pos (starEach es X.env)).any (·.1) = false := by rfl) :
    PE X (.Call (.Name x p) (e :: es) [] pos) (tMake C sp [] E0 t) := by
  obtain ⟨fd, F, b⟩ := Ca.ex
  exact pe_make M F hr hg hm b .nil pass0 ha hdb he hpl
theorem pc_make0 (M : Mk X.K C f) (Ca : Cal X.prog X.w X.K X.mg X.base CX0 k f ps sp) (hr : Room (k + 1) X.A) (hg : Gl X x) (hm : X.mg x = some (.ref C))
    (hdb : (x == ("__debug__" : Str)) = false := by decide +kernel) : PE X (.Call (.Name x p) [] [] pos) (tMake C sp [] E0 tNil) := by
  obtain ⟨fd, F, b⟩ := Ca.ex
  exact pe_make0 M F hr hg hm b .nil pass0 hdb
end
end BL
namespace BL
open PySem PySem.Spec PyProof.Rows L2
/-! ### the same rules, the written part named -/
section
variable {X : Cx} {K : PySem.W.Frag} {e a b c : Expr} {es : List Expr} {te ta tb : TE} {t : TA} {f : Str} {p pos apos : Pos} {tg l : Expr}
theorem k_add (K : PySem.W.Frag) (h : X.K = K := by rfl) : OpR X (binaryOp .Add) (uAdd K) := by subst h; exact u_add
theorem k_mul (K : PySem.W.Frag) (h : X.K = K := by rfl) : OpR X (binaryOp .Mult) (uMul K) := by subst h; exact u_mul
theorem k_eq (K : PySem.W.Frag) (hu : X.A.units + 64 < cLine) (h : X.K = K := by rfl) : OpR X (compareOp .Eq) (uEq K) := by subst h; exact u_eq hu
theorem k_ne (K : PySem.W.Frag) (hu : X.A.units + 64 < cLine) (h : X.K = K := by rfl) : OpR X (compareOp .NotEq) (uNe K) := by subst h; exact u_ne hu
theorem k_ix (K : PySem.W.Frag) (ha : PE X a ta) (hb : PE X b tb) (hs : PlainIx b := by exact fun _ _ => rfl) (h : X.K = K := by rfl) : PE X (.Subscript a b pos) (tOp (uIx K) ta tb) := by subst h; exact pe_ix u_ix ha hb hs
theorem k_len (K : PySem.W.Frag) (h : X.K = K := by rfl) : CallR X (.builtin "len") (uLen K) := by subst h; exact u_len
theorem k_list (K : PySem.W.Frag) (h : X.K = K := by rfl) : CallR X (.type "list") (uList K) := by subst h; exact u_list
theorem k_tuple (K : PySem.W.Frag) (h : X.K = K := by rfl) : CallR X (.type "tuple") (uTuple K) := by subst h; exact u_tuple
theorem k_isi (K : PySem.W.Frag) (h : X.K = K := by rfl) : CallR X (.builtin "isinstance") (uIsi K) := by subst h; exact u_isi
theorem k_sl (K : PySem.W.Frag) (h : X.K = K := by rfl) : SlR X (uSl K) := by subst h; exact u_sl
theorem k_tr (K : PySem.W.Frag) (ha : PE X a ta) (he : ∀ whole, isTrue a X.env whole = (do let v ← whole; standAt a.pos; holding [v] (truthy v)) := by intro _; rfl) (h : X.K = K := by rfl) : PT X a (tTr K ta) := by subst h; exact pt_tr ha he
theorem k_fld (K : PySem.W.Frag) (he : PE X e ta) (hb : attributeBase e f X.env (eval e X.env) = eval e X.env := by rfl) (h : X.K = K := by rfl) : PE X (.Attribute e f pos) (tFld K ta f) := by subst h; exact pe_fld he hb
theorem k_fst (K : PySem.W.Frag) {o value : Expr} {pos' : Pos} {tv : TE} (ha : PE X o ta) (hv : PE X value tv) (hs : swapsWith value (some (.Attribute o f pos')) pos.line X.env = pure false := by rfl) (h : X.K = K := by rfl) : PS X (.Assign [.Attribute o f pos'] value pos) (sFld K ta tv f) := by subst h; exact ps_fld ha hv hs
theorem k_il (K : PySem.W.Frag) (hl : PE X l te) (h : X.K = K := by rfl) : PI X tg l (iList K te) := by subst h; exact pi_list hl
theorem k_it (K : PySem.W.Frag) (hl : PE X l te) (h : X.K = K := by rfl) : PI X tg l (iTup K te) := by subst h; exact pi_tup hl
theorem k_enum (K : PySem.W.Frag) {tpos : Pos} {elts : List Expr} {kk : Nat} (hg : Gl X "enumerate") (hm : X.mg "enumerate" = none) (ha : PA X [e] t) (hs : starEach [e] X.env = [(false, eval e X.env)] := by rfl) (h : X.K = K := by rfl) :
    PI X (.Tuple elts kk tpos) (.Call (.Name "enumerate" p) [e] [] pos) (iEnum K t) := by subst h; exact pi_enum hg hm ha hs
theorem k_gtup (K : PySem.W.Frag) {kk : Nat} {tgs : TGs} {n : Nat} (hc : X.calm = true) (h : PGs X es tgs)
    (hn : (assignEach es X.env).length = n := by rfl) (hst : (assignEach es X.env).findIdx? (·.1) = none := by rfl) (hK : X.K = K := by rfl) : PG X (.Tuple es kk pos) (gTup K n tgs) := by subst hK; exact pg_tup hc h hn hst
theorem k_append (K : PySem.W.Frag) {cpos : Pos} {o : Expr} (ho : PE X o ta) (ha : PA X (e :: es) t)
    (hbase : attributeBase o "append" X.env (eval o X.env) = eval o X.env := by rfl)
    (hfew : ((backTo cpos (starEach (e :: es) X.env)).all (fun x => !x.1) && (backToKw cpos (keywordEach [] X.env)).all (fun x => x.1.isSome)
      && decide ((e :: es).length + ([] : List Keyword).length + (if ([] : List Keyword).isEmpty then 0 else 1) < 30)) = true := by rfl)
    (hline : (apos.endLine == cpos.line) = true := by rfl) (hs : starEach (e :: es) X.env = (false, eval e X.env) :: starEach es X.env := by rfl) (hplain : (backTo cpos (starEach es X.env)).any (·.1) = false := by rfl) (hK : X.K = K := by rfl) :
    PE X (.Call (.Attribute o "append" apos) (e :: es) [] cpos) (tBM K "list" rAppend ta t) := by
  subst hK
  exact pe_bm PySem.F.plainAttrs_list PySem.F.slot_list_append PySem.F.type_list_append mt_append ho ha hbase hfew hline hs hplain
theorem k_pop (K : PySem.W.Frag) {cpos : Pos} {o : Expr} (ho : PE X o ta)
    (hbase : attributeBase o "pop" X.env (eval o X.env) = eval o X.env := by rfl) (hline : (apos.endLine == cpos.line) = true := by rfl) (hK : X.K = K := by rfl) : PE X (.Call (.Attribute o "pop" apos) [] [] cpos) (tBM0 K "list" rPop ta) := by
  subst hK
  exact pe_bm0 PySem.F.plainAttrs_list PySem.F.slot_list_pop PySem.F.type_list_pop mt_pop ho hbase hline
theorem k_rev (K : PySem.W.Frag) {k : Nat} {p1 p2 p3 : Pos} (he : PE X e te) (hK : X.K = K := by rfl) : PE X (.Subscript e (.Slice none none (some (.UnaryOp .USub (.Constant (.int 1) k p1) p2)) p3) pos) (tRevL K te) := by subst hK; exact pe_revL he
end
end BL
namespace BL
open PySem PySem.Spec PyProof.Rows L2
section
variable {K : PySem.W.Frag} {H H' H0 H1 : Hp} {M : List Addr} {a b p q r : Addr} {o : HO} {e : Int}
theorem lk_at2 (ed : Kp [p, q] H H') (ne : b ≠ p) (ne2 : b ≠ q) (nx : H b = some o) : H' b = some o := ed.keep b o (by simp [ne, ne2]) nx
theorem lk_at3 (ed : Kp [p, q, r] H H') (ne : b ≠ p) (ne2 : b ≠ q) (ne3 : b ≠ r) (nx : H b = some o) : H' b = some o := ed.keep b o (by simp [ne, ne2, ne3]) nx
theorem kp_2 (ed : Kp [p, q] H H') (fr : p ∈ M ∨ H0 p = none) (fr2 : q ∈ M ∨ H0 q = none) (nx : Kp M H0 H) : Kp M H0 H' := nx.step ed fun m h => by
  simp only [List.mem_cons, List.not_mem_nil, or_false] at h
  rcases h with rfl | rfl
  · exact fr
  · exact fr2
theorem kp_3 (ed : Kp [p, q, r] H H') (fr : p ∈ M ∨ H0 p = none) (fr2 : q ∈ M ∨ H0 q = none) (fr3 : r ∈ M ∨ H0 r = none) (nx : Kp M H0 H) : Kp M H0 H' := nx.step ed fun m h => by
  simp only [List.mem_cons, List.not_mem_nil, or_false] at h
  rcases h with rfl | rfl | rfl
  · exact fr
  · exact fr2
  · exact fr3
end
end BL
namespace BL
open PySem PySem.Spec PyProof.Rows L2
section
variable {α : Type} {x0 x1 x2 x3 x4 x5 x6 x7 x8 x9 x10 : α} {xs : List α}
theorem atI_0 : atI (x0 :: xs) 0 = some x0 := atI_nat (j := 0) rfl
theorem atI_1 : atI (x0 :: x1 :: xs) 1 = some x1 := atI_nat (j := 1) rfl
theorem atI_2 : atI (x0 :: x1 :: x2 :: xs) 2 = some x2 := atI_nat (j := 2) rfl
theorem atI_3 : atI (x0 :: x1 :: x2 :: x3 :: xs) 3 = some x3 := atI_nat (j := 3) rfl
theorem atI_4 : atI (x0 :: x1 :: x2 :: x3 :: x4 :: xs) 4 = some x4 := atI_nat (j := 4) rfl
theorem atI_5 : atI (x0 :: x1 :: x2 :: x3 :: x4 :: x5 :: xs) 5 = some x5 := atI_nat (j := 5) rfl
theorem atI_6 : atI (x0 :: x1 :: x2 :: x3 :: x4 :: x5 :: x6 :: xs) 6 = some x6 := atI_nat (j := 6) rfl
theorem atI_7 : atI (x0 :: x1 :: x2 :: x3 :: x4 :: x5 :: x6 :: x7 :: xs) 7 = some x7 := atI_nat (j := 7) rfl
theorem atI_8 : atI (x0 :: x1 :: x2 :: x3 :: x4 :: x5 :: x6 :: x7 :: x8 :: xs) 8 = some x8 := atI_nat (j := 8) rfl
theorem atI_9 : atI (x0 :: x1 :: x2 :: x3 :: x4 :: x5 :: x6 :: x7 :: x8 :: x9 :: xs) 9 = some x9 := atI_nat (j := 9) rfl
theorem atI_10 : atI (x0 :: x1 :: x2 :: x3 :: x4 :: x5 :: x6 :: x7 :: x8 :: x9 :: x10 :: xs) 10 = some x10 := atI_nat (j := 10) rfl
theorem atI_neg1 {v : α} : atI (xs ++ [v]) (-1) = some v := atI_last xs v
end
end BL
namespace BL
open PySem PySem.Spec PyProof.Rows L2
theorem m_popS {H : Hp} {Q : VK} {a : Addr} {ys : List V} {y : V} (ha : H a = some (.lst (ys ++ [y]))) (k : ∀ H3, Kp [a] H H3 → H3 a = some (.lst ys) → Q y H3) : rPop (.ref a) [] H Q := by
  refine m_pop ha (by simp) fun H3 k3 h3 => k H3 k3 ?_
  rw [List.dropLast_concat] at h3
  exact h3
end BL
namespace BL
open PySem PySem.Spec PyProof.Rows L2
theorem pf_nil {f : Str} {v : V} : putF f v [] = [(f, v)] := rfl
theorem pf_ne {f g : Str} {v w : V} {r r' : List (Str × V)} (h : ¬ g = f) (e : putF f v r = r') : putF f v ((g, w) :: r) = (g, w) :: r' := by
  rw [putF, if_neg h, e]
theorem pf_eq {f : Str} {v w : V} {r : List (Str × V)} : putF f v ((f, w) :: r) = (f, v) :: r := by
  rw [putF, if_pos rfl]
end BL
namespace BL
open PySem PySem.Spec PyProof.Rows L2
section
variable {K : PySem.W.Frag} {σ : L2.St} {H : Hp} {Q : VK} {tA : TA} {tb : TS} {g : TG} {nx bk ct : L2.St → Hp → Prop} {rt : VK} {v x : V} {a : Addr} {xs : List V} {QS : L2.St → Hp → Prop}
/-! ### tuple targets -/
theorem g_gtup {n : Nat} {t : TGs} (hs : SqT K H a xs) (hn : xs.length = n) (h : t xs σ H QS) : gTup K n t (.ref a) σ H QS := ⟨a, xs, rfl, hs, hn, h⟩
theorem g_gcons {t : TG} {u : TGs} {r : List V} (h : t v σ H fun σ' H' => u r σ' H' QS) : gCons t u (v :: r) σ H QS := ⟨v, r, rfl, h⟩
theorem g_gnil (h : QS σ H) : gNil [] σ H QS := ⟨rfl, h⟩
/-! ### enumerate -/
def LForE (K : PySem.W.Frag) (g : TG) (tb : TS) (nx : L2.St → Hp → Prop) (rt : VK) (σ : L2.St) (vs : List V) (H : Hp) : Prop := ∃ a xs, vs = [.ref a] ∧ SqL K H a xs ∧ ForB (Ite K a) g tb nx rt σ H
theorem g_fe (h : tA σ H fun vs H1 => LForE K g tb nx rt σ vs H1) : tFor (iEnum K tA) g tb ⟨nx, rt, bk, ct⟩ σ H := h
theorem g_forE (hx : SqL K H a xs) (Pv : Nat → L2.St → Hp → Prop) (h0 : Pv 0 σ H) (hl : ∀ i σ' H', i ≤ xs.length → Pv i σ' H' → SqL K H' a xs)
    (hs : ∀ i x σ H T H2, xs[i]? = some x → Pv i σ H → H T = none → Kp [] H H2 → H2 T = some (.tup [.int (i : Nat), x]) → g (.ref T) σ H2 fun σ2 H3 => tb ⟨Pv (i + 1), rt, nx, Pv (i + 1)⟩ σ2 H3) (hd : ∀ σ H, Pv xs.length σ H → nx σ H) : LForE K g tb nx rt σ [.ref a] H := by
  refine ⟨a, xs, rfl, hx, fun i m σ H => m = xs.length - i ∧ i ≤ xs.length ∧ Pv i σ H, ⟨xs.length, by simp, Nat.zero_le _, h0⟩, ?_⟩
  rintro i m σ H ⟨rfl, hi, p⟩
  have q := hl i σ H hi p
  by_cases hlt : i < xs.length
  · refine .inr ⟨⟨xs, xs[i], q, by simp [hlt]⟩, Pv (i + 1), fun σ' H' p' => ⟨xs.length - (i + 1), by omega, rfl, hlt, p'⟩, fun x H' y => ?_⟩
    obtain ⟨T, z, rfl, hT, rfl, hz⟩ := y
    exact hs i z σ H T _ (hz xs q) p hT (Kp.new hT) upd_same
  · have e : i = xs.length := by omega
    subst e
    exact .inl ⟨⟨xs, q, Nat.le_refl _⟩, hd σ H p⟩
end
end BL

set_option Elab.async false
set_option linter.all false
set_option maxRecDepth 100000
set_option maxHeartbeats 2000000
/-! ## Interfaces' rows, events, as data (own text) -/
namespace BL
open PySem PySem.Spec PyProof.Rows L2
abbrev IRow := Int × List (Int × Int)
def encP (q : Int × Int) : PyData := .tuple [.int q.1, .int q.2]
def encRow (r : IRow) : PyData := .tuple [.int r.1, .list (r.2.map encP)]
def encRows (rs : List IRow) : PyData := .list (rs.map encRow)
/-- one component's row, the exports ex known -/
structure RowOk (ex : List Int) (k : Nat) (r : IRow) : Prop where
  e : ex[k]? = some r.1
  len : r.2.length ≤ 5
  nd : r.2.Nodup
  ok : ∀ q ∈ r.2, q.1 ≠ k ∧ 0 ≤ q.1 ∧ 0 ≤ q.2 ∧ ∃ x, ex[q.1.toNat]? = some x ∧ q.2 < x
structure RowsOk (m : Int) (rs : List IRow) : Prop where
  len0 : 1 ≤ rs.length
  len1 : (rs.length : Int) ≤ m
  ex : ∀ r ∈ rs, 1 ≤ r.1 ∧ r.1 ≤ 3
  row : ∀ k r, rs[k]? = some r → RowOk (rs.map (·.1)) k r
/-- the imports so far: all lie before (o, p) -/
structure ImpsOk (ex : List Int) (k : Nat) (o p : Int) (is : List (Int × Int)) : Prop where
  len : is.length ≤ 5
  nd : is.Nodup
  bef : ∀ q ∈ is, q.1 < o ∨ (q.1 = o ∧ q.2 < p)
  ok : ∀ q ∈ is, q.1 ≠ k ∧ 0 ≤ q.1 ∧ 0 ≤ q.2 ∧ ∃ x, ex[q.1.toNat]? = some x ∧ q.2 < x
theorem ImpsOk.nil {ex k} : ImpsOk ex k 0 0 [] := ⟨by decide, List.nodup_nil, (fun _ h => by cases h), (fun _ h => by cases h)⟩
theorem ImpsOk.next {ex k o p is} (h : ImpsOk ex k o p is) : ImpsOk ex k o (p + 1) is := ⟨h.len, h.nd, fun q hq => by have := h.bef q hq; omega, h.ok⟩
theorem ImpsOk.row {ex k o p is} (h : ImpsOk ex k o p is) : ImpsOk ex k (o + 1) 0 is := ⟨h.len, h.nd, fun q hq => by have := h.bef q hq; omega, h.ok⟩
theorem ImpsOk.add {ex k is} {o p : Nat} {x : Int} (h : ImpsOk ex k o p is) (hk : (o : Int) ≠ k) (hl : is.length < 5) (hx : ex[o]? = some x) (hp : (p : Int) < x) : ImpsOk ex k o (p + 1) (is ++ [((o : Int), (p : Int))]) := by
  refine ⟨by simp; omega, ?_, ?_, ?_⟩
  · rw [List.nodup_append]
    refine ⟨h.nd, by simp, fun a ha b hb => ?_⟩
    simp only [List.mem_singleton] at hb
    subst hb
    intro e
    subst e
    have := h.bef _ ha
    simp only at this
    omega
  · intro q hq
    rcases List.mem_append.mp hq with hq | hq
    · have := h.bef q hq
      omega
    · simp only [List.mem_singleton] at hq
      subst hq
      exact .inr ⟨rfl, by simp only; omega⟩
  · intro q hq
    rcases List.mem_append.mp hq with hq | hq
    · exact h.ok q hq
    · simp only [List.mem_singleton] at hq
      subst hq
      exact ⟨hk, by simp only; omega, by simp only; omega, x, by simpa using hx, hp⟩
theorem ImpsOk.rowOk {ex k o p is e} (h : ImpsOk ex k o p is) (he : ex[k]? = some e) : RowOk ex k (e, is) := ⟨he, h.len, h.nd, h.ok⟩
theorem ImpsOk.rev {ex k o p is} (h : ImpsOk ex k o p is) : ImpsOk ex k o p is.reverse :=
  ⟨by simpa using h.len, by unfold List.Nodup; rw [List.pairwise_reverse]; exact h.nd.imp (fun z => Ne.symm z), fun q hq => h.bef q (List.mem_reverse.mp hq), fun q hq => h.ok q (List.mem_reverse.mp hq)⟩
theorem FpL.rev {K H} {ds : List PyData} {xs : List V} (h : FpL K H ds xs) : FpL K H ds.reverse xs.reverse := by
  induction ds generalizing xs with
  | nil => simp only [FpL] at h; subst h; simp [FpL]
  | cons d ds ih =>
    simp only [FpL] at h
    obtain ⟨v, vs, rfl, s, t⟩ := h
    rw [List.reverse_cons, List.reverse_cons]
    exact FpL.app (ih t) (FpL.one s)
theorem FpL.nil {K H} : FpL K H [] [] := by simp only [FpL]
theorem FpL.cons {K H d ds v vs} (h : Fp K H d v) (t : FpL K H ds vs) : FpL K H (d :: ds) (v :: vs) := by
  simp only [FpL]
  exact ⟨v, vs, rfl, h, t⟩
theorem FpL.snoc {K H} {ds : List PyData} {xs : List V} {d : PyData} {v : V} (h : FpL K H ds xs) (g : Fp K H d v) : FpL K H (ds ++ [d]) (xs ++ [v]) := FpL.app h (FpL.one g)
theorem Fp.tup {K H a xs ds} (h : SqT K H a xs) (t : FpL K H ds xs) : Fp K H (.tuple ds) (.ref a) := by
  simp only [Fp]
  exact ⟨a, xs, rfl, h, t⟩
theorem Fp.lst {K H a xs ds} (h : SqF K H a xs) (t : FpL K H ds xs) : Fp K H (.list ds) (.ref a) := by
  simp only [Fp]
  exact ⟨a, xs, rfl, h, t⟩
theorem Fp.tupE {K H v ds} (h : Fp K H (.tuple ds) v) : ∃ a xs, v = .ref a ∧ SqT K H a xs ∧ FpL K H ds xs := by simpa only [Fp] using h
theorem Fp.lstE {K H v ds} (h : Fp K H (.list ds) v) : ∃ a xs, v = .ref a ∧ SqF K H a xs ∧ FpL K H ds xs := by simpa only [Fp] using h
theorem Fp.intE {K H v i} (h : Fp K H (.int i) v) : v = .int i := by simpa only [Fp] using h
theorem Fp.strE {K H v i} (h : Fp K H (.str i) v) : v = .str i := by simpa only [Fp] using h
theorem FpL.consE {K H d ds xs} (h : FpL K H (d :: ds) xs) : ∃ v vs, xs = v :: vs ∧ Fp K H d v ∧ FpL K H ds vs := by simpa only [FpL] using h
theorem FpL.nilE {K H xs} (h : FpL K H [] xs) : xs = [] := by simpa only [FpL] using h
end BL
namespace BL
open PySem PySem.Spec PyProof.Rows L2
theorem uIx_LN {K : PySem.W.Frag} {H : Hp} {Q : VK} {l : Addr} {ns : List Int} {i : Nat} (hs : SqL K H l (ns.map V.int)) (h1 : i < ns.length) (h : ∀ x, ns[i]? = some x → Q (.int x) H) : uIx K (.ref l) (.int i) H Q := by
  refine uIx_L hs (atI_nat (j := i) (v := .int ns[i]) ?_) (h _ (List.getElem?_eq_getElem h1))
  rw [List.getElem?_map, List.getElem?_eq_getElem h1]
  rfl
theorem RowsOk.mk' {ex : List Int} {m : Int} {rs : List IRow} (h0 : 1 ≤ ex.length) (h1 : (ex.length : Int) ≤ m) (he : ∀ x ∈ ex, 1 ≤ x ∧ x ≤ 3) (hl : rs.length = ex.length) (h : ∀ k r, rs[k]? = some r → RowOk ex k r) : RowsOk m rs := by
  have e : rs.map (·.1) = ex := by
    apply List.ext_getElem?
    intro i
    rw [List.getElem?_map]
    cases q : rs[i]? with
    | none =>
      have := List.getElem?_eq_none_iff.mp q
      rw [List.getElem?_eq_none (by omega)]
      rfl
    | some r => rw [(h i r q).e]; rfl
  refine ⟨by omega, by omega, fun r hr => ?_, fun k r hk => by rw [e]; exact h k r hk⟩
  exact he r.1 (by rw [← e]; exact List.mem_map_of_mem hr)
end BL
namespace BL
open PySem PySem.Spec PyProof.Rows L2
/-! ### events -/
inductive Ev where
  | call (f t p w : Int)
  | ret (f t w : Int)
  | fin (w : Int)
  deriving DecidableEq
def encEv : Ev → PyData
  | .call f t p w => .tuple [.str "call", .int f, .int t, .int p, .int w]
  | .ret f t w => .tuple [.str "return", .int f, .int t, .int w]
  | .fin w => .tuple [.str "end", .int w]
def Ev.kind : Ev → Str
  | .call .. => "call"
  | .ret .. => "return"
  | .fin .. => "end"
/-- who makes it -/
def Ev.by' : Ev → Int
  | .call f .. => f
  | .ret f .. => f
  | .fin _ => 0
def Ev.word : Ev → Int
  | .call _ _ _ w => w
  | .ret _ _ w => w
  | .fin w => w
def impsOf (rs : List IRow) (c : Int) : List (Int × Int) := if 0 ≤ c then (match rs[c.toNat]? with | some r => r.2 | none => []) else []
/-- the current component and the waiting ones, the last one first -/
abbrev Who := Option Int × List Int
def evStep (rs : List IRow) : Who → Ev → Option Who
  | (none, _), _ => none
  | (some c, ws), .call f t p _ => if f = c ∧ (t, p) ∈ impsOf rs c then some (some t, c :: ws) else none
  | (some c, ws), .ret f t _ => match ws with
    | [] => none
    | x :: ws' => if f = c ∧ t = x then some (some x, ws') else none
  | (some _, ws), .fin _ => match ws with
    | [] => some (none, [])
    | _ :: _ => none
def evRun (rs : List IRow) (st : Who) (tr : List Ev) : Option Who := tr.foldlM (evStep rs) st
theorem evRun_snoc {rs st tr e s2} (h : evRun rs st tr = some s2) : evRun rs st (tr ++ [e]) = evStep rs s2 e := by
  unfold evRun at h ⊢
  rw [List.foldlM_append, h]
  simp [List.foldlM]
theorem Fp.rowE {K H r v} (h : Fp K H (encRow r) v) : ∃ a b xs, v = .ref a ∧ SqT K H a [.int r.1, .ref b] ∧ SqF K H b xs ∧ FpL K H (r.2.map encP) xs := by
  obtain ⟨a, xs, rfl, hs, hl⟩ := h.tupE
  obtain ⟨v1, vs, rfl, h1, hl⟩ := hl.consE
  obtain ⟨v2, vs, rfl, h2, hl⟩ := hl.consE
  have := hl.nilE
  subst this
  have := h1.intE
  subst this
  obtain ⟨b, ys, rfl, hb, hy⟩ := h2.lstE
  exact ⟨a, b, ys, rfl, hs, hb, hy⟩
theorem Fp.pE {K H q v} (h : Fp K H (encP q) v) : ∃ a, v = .ref a ∧ SqT K H a [.int q.1, .int q.2] := by
  obtain ⟨a, xs, rfl, hs, hl⟩ := h.tupE
  obtain ⟨v1, vs, rfl, h1, hl⟩ := hl.consE
  obtain ⟨v2, vs, rfl, h2, hl⟩ := hl.consE
  have := hl.nilE
  subst this
  have := h1.intE
  subst this
  have := h2.intE
  subst this
  exact ⟨a, rfl, hs⟩
def evVals : Ev → List V
  | .call f t p w => [.str "call", .int f, .int t, .int p, .int w]
  | .ret f t w => [.str "return", .int f, .int t, .int w]
  | .fin w => [.str "end", .int w]
theorem Fp.evE {K H e v} (h : Fp K H (encEv e) v) : ∃ a, v = .ref a ∧ SqT K H a (evVals e) := by
  cases e <;> (
    simp only [encEv, Fp, FpL] at h
    obtain ⟨a, xs, rfl, hs, h⟩ := h
    refine ⟨a, rfl, ?_⟩
    simp only [evVals])
  · obtain ⟨_, _, rfl, rfl, _, _, rfl, rfl, _, _, rfl, rfl, _, _, rfl, rfl, _, _, rfl, rfl, rfl⟩ := h
    exact hs
  · obtain ⟨_, _, rfl, rfl, _, _, rfl, rfl, _, _, rfl, rfl, _, _, rfl, rfl, rfl⟩ := h
    exact hs
  · obtain ⟨_, _, rfl, rfl, _, _, rfl, rfl, rfl⟩ := h
    exact hs
theorem Fp.evI {K H a} {e : Ev} (h : SqT K H a (evVals e)) : Fp K H (encEv e) (.ref a) := by
  cases e <;> simp only [encEv, Fp, FpL] <;> refine ⟨a, _, rfl, h, ?_⟩ <;> simp [evVals]
end BL
namespace BL
open PySem PySem.Spec PyProof.Rows L2
theorem map_some {α β : Type} {f : α → β} {xs : List α} {i : Nat} {d : β} (h : (xs.map f)[i]? = some d) : ∃ r, xs[i]? = some r ∧ f r = d := by
  rw [List.getElem?_map] at h
  cases q : xs[i]? with
  | none => rw [q] at h; cases h
  | some r => rw [q] at h; exact ⟨r, rfl, by simpa using h⟩
theorem impsOf_eq {rs : List IRow} {c : Int} {r : IRow} (h0 : 0 ≤ c) (h : rs[c.toNat]? = some r) : impsOf rs c = r.2 := by
  unfold impsOf
  rw [if_pos h0, h]
theorem RowsOk.imp {m rs} (ho : RowsOk m rs) {c : Nat} {r : IRow} (h : rs[c]? = some r) {q : Int × Int} (hq : q ∈ r.2) : 0 ≤ q.1 ∧ q.1 < rs.length ∧ 0 ≤ q.2 ∧ q.1 ≠ c := by
  obtain ⟨h1, h2, h3, x, hx, h4⟩ := (ho.row _ _ h).ok q hq
  have := (List.getElem?_eq_some_iff.mp hx).1
  simp at this
  exact ⟨h2, by omega, h3, h1⟩
theorem evStep_call {rs c ws t p w} (h : (t, p) ∈ impsOf rs c) : evStep rs (some c, ws) (.call c t p w) = some (some t, c :: ws) := by simp [evStep, h]
theorem evStep_ret {rs c ws t w} : evStep rs (some c, t :: ws) (.ret c t w) = some (some t, ws) := by simp [evStep]
theorem evStep_fin {rs c w} : evStep rs (some c, []) (.fin w) = some (none, []) := by simp [evStep]
theorem wd_snoc {tr : List Ev} {e : Ev} (h : ∀ x ∈ tr, Wd x.word) (he : Wd e.word) : ∀ x ∈ tr ++ [e], Wd x.word := fun x hx => by
  rcases List.mem_append.mp hx with z | z
  · exact h x z
  · rw [List.mem_singleton.mp z]; exact he
end BL
namespace BL
open PySem PySem.Spec PyProof.Rows L2
theorem Fp.callI {K H a} {f t p w : Int} (h : SqT K H a [.str "call", .int f, .int t, .int p, .int w]) : Fp K H (encEv (.call f t p w)) (.ref a) := Fp.evI (e := .call f t p w) h
theorem Fp.retI {K H a} {f t w : Int} (h : SqT K H a [.str "return", .int f, .int t, .int w]) : Fp K H (encEv (.ret f t w)) (.ref a) := Fp.evI (e := .ret f t w) h
theorem Fp.finI {K H a} {w : Int} (h : SqT K H a [.str "end", .int w]) : Fp K H (encEv (.fin w)) (.ref a) := Fp.evI (e := .fin w) h
end BL
namespace BL
open PySem PySem.Spec PyProof.Rows L2
/-! ### policies -/
structure Rule where
  s : Int
  kind : Str
  c : Int
  n : Int
def encRule (r : Rule) : PyData := .tuple [.int r.s, .str r.kind, .int r.c, .int r.n]
def Rule.fits (st : Int) (e : Ev) (r : Rule) : Bool := decide (r.s = st) && (decide (r.kind = e.kind) && decide (r.c = e.by'))
/-- the state of a policy after an event -/
def polAfter (rules : List Rule) (st : Int) (e : Ev) : Int := if st = -1 then -1 else match rules.find? (Rule.fits st e) with
  | some r => r.n
  | none => st
theorem find_at {α : Type} {p : α → Bool} : ∀ {l : List α} {i : Nat} {x : α}, l[i]? = some x → p x = true → (∀ (j : Nat) (y : α), j < i → l[j]? = some y → p y = false) → l.find? p = some x
  | [], _, _, h, _, _ => by simp at h
  | a :: l, 0, x, h, hp, _ => by
    simp at h
    subst h
    simp [List.find?, hp]
  | a :: l, i + 1, x, h, hp, hn => by
    have e := hn 0 a (by omega) rfl
    rw [List.find?_cons, e]
    exact find_at (l := l) (i := i) (by simpa using h) hp fun j y hj hy => hn (j + 1) y (by omega) (by simpa using hy)
theorem find_no {α : Type} {p : α → Bool} : ∀ {l : List α}, (∀ (j : Nat) (y : α), l[j]? = some y → p y = false) → l.find? p = none
  | [], _ => rfl
  | a :: l, hn => by
    rw [List.find?_cons, hn 0 a rfl]
    exact find_no fun j y hy => hn (j + 1) y (by simpa using hy)
theorem Fp.ruleE {K H r v} (h : Fp K H (encRule r) v) : ∃ a, v = .ref a ∧ SqT K H a [.int r.s, .str r.kind, .int r.c, .int r.n] := by
  simp only [encRule, Fp, FpL] at h
  obtain ⟨a, xs, rfl, hs, _, _, rfl, rfl, _, _, rfl, rfl, _, _, rfl, rfl, _, _, rfl, rfl, rfl⟩ := h
  exact ⟨a, rfl, hs⟩
theorem Fp.ruleI {K H r a} (h : SqT K H a [.int r.s, .str r.kind, .int r.c, .int r.n]) : Fp K H (encRule r) (.ref a) := by
  simp only [encRule, Fp, FpL]
  exact ⟨a, _, rfl, h, by simp⟩
def PolicyAt (K : PySem.W.Frag) (H : Hp) (a : Addr) (rules : List Rule) : Prop := ∃ dx t xs, H a = some (.ins (He.ga K "Policy") dx [("rules", .ref t)]) ∧ SqT K H t xs ∧ FpL K H (rules.map encRule) xs
theorem PolicyAt.k0 {K H H' a r} (ed : Kp [] H H') (nx : PolicyAt K H a r) : PolicyAt K H' a r := let ⟨dx, t, xs, h1, h2, h3⟩ := nx; ⟨dx, t, xs, ed.at0 h1, SqT.kp ed h2, FpL.kp ed _ _ h3⟩
theorem PolicyAt.k1 {K H H' a r q} (ed : Kp [q] H H') (ne : a ≠ q) (nx : PolicyAt K H a r) : PolicyAt K H' a r := let ⟨dx, t, xs, h1, h2, h3⟩ := nx; ⟨dx, t, xs, ed.at1 ne h1, SqT.kp ed h2, FpL.kp ed _ _ h3⟩
end BL
namespace BL
open PySem PySem.Spec PyProof.Rows L2
def polRun (rules : List Rule) (st : Int) (tr : List Ev) : Int := tr.foldl (polAfter rules) st
/-- the index of the event that breaks the policy -/
def polBroken (rules : List Rule) : Int → Nat → List Ev → Option Nat
  | _, _, [] => none
  | st, i, e :: tr => if polAfter rules st e = -1 then some i else polBroken rules (polAfter rules st e) (i + 1) tr
theorem polRun_take {rules : List Rule} {st : Int} {tr : List Ev} {i : Nat} {e : Ev} (h : tr[i]? = some e) : polRun rules st (tr.take (i + 1)) = polAfter rules (polRun rules st (tr.take i)) e := by
  unfold polRun
  rw [List.take_add_one, h]
  simp
theorem polBroken_drop {rules : List Rule} {st : Int} {i k : Nat} {e : Ev} {tr : List Ev} (h : tr[i]? = some e) : polBroken rules st k (tr.drop i) = if polAfter rules st e = -1 then some k else polBroken rules (polAfter rules st e) (k + 1) (tr.drop (i + 1)) := by
  obtain ⟨hl, he⟩ := List.getElem?_eq_some_iff.mp h
  rw [List.drop_eq_getElem_cons hl, he]
  rfl
theorem polAfter_broken {rules : List Rule} {e : Ev} : polAfter rules (-1) e = -1 := by unfold polAfter; rw [if_pos rfl]
end BL
namespace BL
open PySem PySem.Spec PyProof.Rows L2
theorem FpL.at {K H} : ∀ {ds : List PyData} {xs : List V} {i : Nat} {x : V}, FpL K H ds xs → xs[i]? = some x → ∃ d, ds[i]? = some d ∧ Fp K H d x
  | [], _, _, _, h, e => by simp only [FpL] at h; subst h; simp at e
  | d :: ds, xs, 0, x, h, e => by
    simp only [FpL] at h
    obtain ⟨v, vs, rfl, s, t⟩ := h
    simp at e
    subst e
    exact ⟨d, rfl, s⟩
  | d :: ds, xs, i + 1, x, h, e => by
    simp only [FpL] at h
    obtain ⟨v, vs, rfl, s, t⟩ := h
    obtain ⟨u, h1, h2⟩ := FpL.at (i := i) t (by simpa using e)
    exact ⟨u, by simpa using h1, h2⟩
end BL
namespace BL
open PySem PySem.Spec PyProof.Rows L2
mutual
def noB : PyData → Bool
  | .bool _ => false
  | .dict _ => false
  | .list ds => noBL ds
  | .tuple ds => noBL ds
  | _ => true
def noBL : List PyData → Bool
  | [] => true
  | d :: ds => noB d && noBL ds
end
mutual
theorem eqv_dsame : ∀ a b : PyData, noB a = true → noB b = true → PyData.eqv a b = dsame a b
  | .none, b, _, hb => by cases b <;> simp [PyData.eqv, dsame]
  | .bool _, _, h, _ => by simp [noB] at h
  | .int _, b, _, hb => by cases b <;> simp_all [PyData.eqv, dsame, noB] <;> rfl
  | .str _, b, _, hb => by cases b <;> simp_all [PyData.eqv, dsame, noB] <;> rfl
  | .list as, b, h, hb => by
    cases b with
    | list bs =>
      simp only [PyData.eqv, dsame]
      exact eqvAll_dsame as bs (by simpa [noB] using h) (by simpa [noB] using hb)
    | _ => simp_all [PyData.eqv, dsame, noB]
  | .tuple as, b, h, hb => by
    cases b with
    | tuple bs =>
      simp only [PyData.eqv, dsame]
      exact eqvAll_dsame as bs (by simpa [noB] using h) (by simpa [noB] using hb)
    | _ => simp_all [PyData.eqv, dsame, noB]
  | .dict _, _, h, _ => by simp [noB] at h
theorem eqvAll_dsame : ∀ as bs : List PyData, noBL as = true → noBL bs = true → PyData.eqvAll as bs = dsameL as bs
  | [], [], _, _ => rfl
  | [], _ :: _, _, _ => rfl
  | _ :: _, [], _, _ => rfl
  | a :: as, b :: bs, h, hb => by
    simp only [noBL, Bool.and_eq_true] at h hb
    simp only [PyData.eqvAll, dsameL]
    rw [eqv_dsame a b h.1 hb.1, eqvAll_dsame as bs h.2 hb.2]
end
theorem shaped_of {d : PyData} (h1 : PyData.canLay0 d = true) (h2 : PyData.depth d ≤ 64) : SeqAt.shaped d = true := by
  unfold SeqAt.shaped
  rw [h1, decide_eq_true h2]
  rfl
theorem uEq_same {K : PySem.W.Frag} {H : Hp} {Q : VK} {x y : V} {d e : PyData} (h1 : Fp K H d x) (h2 : Fp K H e y) (s1 : SeqAt.shaped d = true) (s2 : SeqAt.shaped e = true) (n1 : noB d = true) (n2 : noB e = true) (h : Q (.bl (dsame d e)) H) : uEq K x y H Q :=
  uEq_D h1 h2 s1 s2 (by rw [eqv_dsame _ _ n1 n2]; exact h)
end BL
namespace BL
open PySem PySem.Spec PyProof.Rows L2
theorem cutV_to {xs : List V} {n : Int} (h : 0 ≤ n) : cutV xs none (some n) = xs.take n.toNat := by
  unfold cutV HT.sIx
  simp
  rw [if_neg (by omega)]
  omega
theorem cutV_from {xs : List V} {n : Int} (h : 0 ≤ n) : cutV xs (some n) none = xs.drop n.toNat := by
  unfold cutV HT.sIx
  simp
  rw [if_neg (by omega)]
  by_cases hl : n.toNat ≤ xs.length
  · rw [Nat.min_eq_left hl, List.take_of_length_le (by simp)]
  · rw [Nat.min_eq_right (by omega), List.drop_length, List.drop_eq_nil_of_le (by omega)]
    simp
theorem cut_to1 {x0 : V} {xs : List V} : cutV (x0 :: xs) none (some 1) = [x0] := cutV_to (by decide)
theorem cut_to2 {x0 x1 : V} {xs : List V} : cutV (x0 :: x1 :: xs) none (some 2) = [x0, x1] := cutV_to (by decide)
theorem cut_to3 {x0 x1 x2 : V} {xs : List V} : cutV (x0 :: x1 :: x2 :: xs) none (some 3) = [x0, x1, x2] := cutV_to (by decide)
theorem cut_to4 {x0 x1 x2 x3 : V} {xs : List V} : cutV (x0 :: x1 :: x2 :: x3 :: xs) none (some 4) = [x0, x1, x2, x3] := cutV_to (by decide)
end BL
namespace BL
open PySem PySem.Spec PyProof.Rows L2
mutual
/-- no dict, no truth value, plain texts -/
def good : PyData → Bool
  | .bool _ => false
  | .dict _ => false
  | .str s => PyData.strOk s
  | .list ds => goodL ds
  | .tuple ds => goodL ds
  | _ => true
def goodL : List PyData → Bool
  | [] => true
  | d :: ds => good d && goodL ds
end
mutual
theorem good_lay : ∀ d, good d = true → PyData.canLay0 d = true
  | .none, _ => rfl
  | .bool _, h => by simp [good] at h
  | .int _, _ => rfl
  | .str s, h => by simpa [good, PyData.canLay0] using h
  | .list ds, h => by simp only [PyData.canLay0]; exact goodL_lay ds (by simpa [good] using h)
  | .tuple ds, h => by simp only [PyData.canLay0]; exact goodL_lay ds (by simpa [good] using h)
  | .dict _, h => by simp [good] at h
theorem goodL_lay : ∀ ds, goodL ds = true → PyData.canLayAll0 ds = true
  | [], _ => rfl
  | d :: ds, h => by
    simp only [goodL, Bool.and_eq_true] at h
    simp only [PyData.canLayAll0, Bool.and_eq_true]
    exact ⟨good_lay d h.1, goodL_lay ds h.2⟩
end
mutual
theorem good_noB : ∀ d, good d = true → noB d = true
  | .none, _ => rfl
  | .bool _, h => by simp [good] at h
  | .int _, _ => rfl
  | .str s, h => rfl
  | .list ds, h => by simp only [noB]; exact goodL_noB ds (by simpa [good] using h)
  | .tuple ds, h => by simp only [noB]; exact goodL_noB ds (by simpa [good] using h)
  | .dict _, h => by simp [good] at h
theorem goodL_noB : ∀ ds, goodL ds = true → noBL ds = true
  | [], _ => rfl
  | d :: ds, h => by
    simp only [goodL, Bool.and_eq_true] at h
    simp only [noBL, Bool.and_eq_true]
    exact ⟨good_noB d h.1, goodL_noB ds h.2⟩
end
mutual
theorem good_plain : ∀ d, good d = true → plain d = true
  | .none, _ => rfl
  | .bool _, h => by simp [good] at h
  | .int _, _ => rfl
  | .str s, h => rfl
  | .list ds, h => by simp only [plain]; exact goodL_plain ds (by simpa [good] using h)
  | .tuple ds, h => by simp only [plain]; exact goodL_plain ds (by simpa [good] using h)
  | .dict _, h => by simp [good] at h
theorem goodL_plain : ∀ ds, goodL ds = true → plainL ds = true
  | [], _ => rfl
  | d :: ds, h => by
    simp only [goodL, Bool.and_eq_true] at h
    simp only [plainL, Bool.and_eq_true]
    exact ⟨good_plain d h.1, goodL_plain ds h.2⟩
end
theorem goodL_map {α : Type} {f : α → PyData} : ∀ {xs : List α}, (∀ x ∈ xs, good (f x) = true) → goodL (xs.map f) = true
  | [], _ => rfl
  | x :: xs, h => by
    simp only [List.map_cons, goodL, Bool.and_eq_true]
    exact ⟨h x List.mem_cons_self, goodL_map fun y hy => h y (List.mem_cons_of_mem _ hy)⟩
theorem depthAll_map {α : Type} {f : α → PyData} {n : Nat} : ∀ {xs : List α}, (∀ x ∈ xs, PyData.depth (f x) ≤ n) → PyData.depthAll (xs.map f) ≤ n
  | [], _ => by simp [PyData.depthAll]
  | x :: xs, h => by
    simp only [List.map_cons, PyData.depthAll]
    have h1 := h x List.mem_cons_self
    have h2 := depthAll_map (f := f) (n := n) (xs := xs) fun y hy => h y (List.mem_cons_of_mem _ hy)
    omega
theorem depth_list {ds : List PyData} {n : Nat} (h : PyData.depthAll ds ≤ n) : PyData.depth (.list ds) ≤ n + 1 := by simp only [PyData.depth]; omega
theorem depth_tuple {ds : List PyData} {n : Nat} (h : PyData.depthAll ds ≤ n) : PyData.depth (.tuple ds) ≤ n + 1 := by simp only [PyData.depth]; omega
theorem depthAll_nil {n : Nat} : PyData.depthAll [] ≤ n := by simp [PyData.depthAll]
theorem depthAll_cons {d : PyData} {ds : List PyData} {n : Nat} (h : PyData.depth d ≤ n) (t : PyData.depthAll ds ≤ n) : PyData.depthAll (d :: ds) ≤ n := by simp only [PyData.depthAll]; omega
theorem good_ev (e : Ev) : good (encEv e) = true := by cases e <;> kernel_rfl
theorem depth_ev (e : Ev) : PyData.depth (encEv e) ≤ 1 := by cases e <;> simp [encEv, PyData.depth, PyData.depthAll]
def kindOk (s : Str) : Prop := s = "call" ∨ s = "return" ∨ s = "end"
theorem good_rule {r : Rule} (h : kindOk r.kind) : good (encRule r) = true := by
  rcases h with h | h | h <;> (simp only [encRule]; rw [h]; kernel_rfl)
theorem depth_rule {r : Rule} : PyData.depth (encRule r) ≤ 1 := by simp [encRule, PyData.depth, PyData.depthAll]
/-- == of a value with itself, as data -/
theorem uEq_refl {K : PySem.W.Frag} {H : Hp} {Q : VK} {x y : V} {d : PyData} (h1 : Fp K H d x) (h2 : Fp K H d y) (hg : good d = true) (hd : PyData.depth d ≤ 64) (h : Q (.bl true) H) : uEq K x y H Q :=
  uEq_same h1 h2 (shaped_of (good_lay d hg) hd) (shaped_of (good_lay d hg) hd) (good_noB d hg) (good_noB d hg) (by rw [dsame_refl d (good_plain d hg)]; exact h)
end BL

set_option Elab.async false
set_option linter.all false
set_option maxRecDepth 4000
set_option maxHeartbeats 0

namespace BX
open PySem PySem.Spec PyProof.Rows L2 He BL
def top (i : Nat) : Stmt := PySem.Challenge.pw_blameless_k70_policies.main.body.getD i (.Pass ⟨0, 0, 0, 0⟩)
abbrev s_Policy_ini : Stmt := inClass (top 2) 0
def d_Policy_ini : He.DefD := ⟨("Policy", some "__init__"), "__init__", "Policy.__init__", defArgs s_Policy_ini, defBody s_Policy_ini, defScope s_Policy_ini, [], []⟩
abbrev s_Policy_after : Stmt := inClass (top 2) 1
def d_Policy_after : He.DefD := ⟨("Policy", some "after"), "after", "Policy.after", defArgs s_Policy_after, defBody s_Policy_after, defScope s_Policy_after, [], []⟩
abbrev s_state_after : Stmt := top 3
def d_state_after : He.DefD := ⟨("state_after", none), "state_after", "state_after", defArgs s_state_after, defBody s_state_after, defScope s_state_after, [], []⟩
abbrev s_broken_at : Stmt := top 4
def d_broken_at : He.DefD := ⟨("broken_at", none), "broken_at", "broken_at", defArgs s_broken_at, defBody s_broken_at, defScope s_broken_at, [], []⟩
abbrev s_law_pool : Stmt := top 6
def d_law_pool : He.DefD := ⟨("_law_pool", none), "_law_pool", "_law_pool", defArgs s_law_pool, defBody s_law_pool, defScope s_law_pool, [], []⟩
abbrev s_law_draw : Stmt := top 7
def d_law_draw : He.DefD := ⟨("_law_draw", none), "_law_draw", "_law_draw", defArgs s_law_draw, defBody s_law_draw, defScope s_law_draw, [], []⟩
abbrev s_law_spend : Stmt := top 8
def d_law_spend : He.DefD := ⟨("_law_spend", none), "_law_spend", "_law_spend", defArgs s_law_spend, defBody s_law_spend, defScope s_law_spend, [], []⟩
abbrev s_law_few : Stmt := top 9
def d_law_few : He.DefD := ⟨("_law_few", none), "_law_few", "_law_few", defArgs s_law_few, defBody s_law_few, defScope s_law_few, [], []⟩
abbrev s_law_number : Stmt := top 10
def d_law_number : He.DefD := ⟨("_law_number", none), "_law_number", "_law_number", defArgs s_law_number, defBody s_law_number, defScope s_law_number, [], []⟩
abbrev s_law_same : Stmt := top 11
def d_law_same : He.DefD := ⟨("_law_same", none), "_law_same", "_law_same", defArgs s_law_same, defBody s_law_same, defScope s_law_same, [], []⟩
abbrev s_law_rows : Stmt := top 12
def d_law_rows : He.DefD := ⟨("_law_rows", none), "_law_rows", "_law_rows", defArgs s_law_rows, defBody s_law_rows, defScope s_law_rows, [], []⟩
abbrev s_law_drawn : Stmt := top 13
def d_law_drawn : He.DefD := ⟨("_law_drawn", none), "_law_drawn", "_law_drawn", defArgs s_law_drawn, defBody s_law_drawn, defScope s_law_drawn, [], []⟩
abbrev s_law_next : Stmt := top 14
def d_law_next : He.DefD := ⟨("_law_next", none), "_law_next", "_law_next", defArgs s_law_next, defBody s_law_next, defScope s_law_next, [], []⟩
abbrev s_law : Stmt := top 15
def d_law : He.DefD := ⟨("law", none), "law", "law", defArgs s_law, defBody s_law, defScope s_law, [], []⟩
def fn : List He.DefD := [d_Policy_ini, d_Policy_after, d_state_after, d_broken_at, d_law_pool, d_law_draw, d_law_spend, d_law_few, d_law_number, d_law_same, d_law_rows, d_law_drawn, d_law_next, d_law]
def qs : BH.Qs := [(Fa.glo "state_after").ok,
  (Fa.glo "broken_at").ok,
  (Fa.glo "_law_pool").ok,
  (Fa.glo "_law_draw").ok,
  (Fa.glo "_law_spend").ok,
  (Fa.glo "_law_few").ok,
  (Fa.glo "_law_number").ok,
  (Fa.glo "_law_same").ok,
  (Fa.glo "_law_rows").ok,
  (Fa.glo "_law_drawn").ok,
  (Fa.glo "_law_next").ok,
  (Fa.glo "law").ok,
  (Fa.glo "Policy").ok,
  (Fa.cls "Policy").ok,
  (Fa.mkr "Policy").ok,
  (Fa.meth "Policy" "after").ok,
  (Fa.noat "Policy" "rules").ok,
  (Fa.free "enumerate").ok,
  (Fa.free "min").ok,
  (Fa.free "isinstance").ok,
  (Fa.free "int").ok,
  (Fa.free "range").ok,
  (Fa.free "tuple").ok,
  (Fa.free "list").ok,
  (Fa.free "bool").ok,
  (Fa.free "str").ok,
  (Fa.free "len").ok,
  (Fa.int "BROKEN" (-1)).ok]
structure Tx (K : PySem.W.Frag) (mg : Str → Option Value) : Prop where
  ex : ∃ h : Heap, K.In h ∧ h.Ns mainGlobals mg
  c : BH.SaysX qs fn K
section
variable {K : PySem.W.Frag} {mg : Str → Option Value}
theorem Tx.g_state_after (T : Tx K mg) : mg "state_after" = some (.ref (ga K "state_after")) := let ⟨_, X, G⟩ := T.ex; He.glo_ok X G (T.c.fact 0 rfl)
theorem Tx.g_broken_at (T : Tx K mg) : mg "broken_at" = some (.ref (ga K "broken_at")) := let ⟨_, X, G⟩ := T.ex; He.glo_ok X G (T.c.fact 1 rfl)
theorem Tx.g__law_pool (T : Tx K mg) : mg "_law_pool" = some (.ref (ga K "_law_pool")) := let ⟨_, X, G⟩ := T.ex; He.glo_ok X G (T.c.fact 2 rfl)
theorem Tx.g__law_draw (T : Tx K mg) : mg "_law_draw" = some (.ref (ga K "_law_draw")) := let ⟨_, X, G⟩ := T.ex; He.glo_ok X G (T.c.fact 3 rfl)
theorem Tx.g__law_spend (T : Tx K mg) : mg "_law_spend" = some (.ref (ga K "_law_spend")) := let ⟨_, X, G⟩ := T.ex; He.glo_ok X G (T.c.fact 4 rfl)
theorem Tx.g__law_few (T : Tx K mg) : mg "_law_few" = some (.ref (ga K "_law_few")) := let ⟨_, X, G⟩ := T.ex; He.glo_ok X G (T.c.fact 5 rfl)
theorem Tx.g__law_number (T : Tx K mg) : mg "_law_number" = some (.ref (ga K "_law_number")) := let ⟨_, X, G⟩ := T.ex; He.glo_ok X G (T.c.fact 6 rfl)
theorem Tx.g__law_same (T : Tx K mg) : mg "_law_same" = some (.ref (ga K "_law_same")) := let ⟨_, X, G⟩ := T.ex; He.glo_ok X G (T.c.fact 7 rfl)
theorem Tx.g__law_rows (T : Tx K mg) : mg "_law_rows" = some (.ref (ga K "_law_rows")) := let ⟨_, X, G⟩ := T.ex; He.glo_ok X G (T.c.fact 8 rfl)
theorem Tx.g__law_drawn (T : Tx K mg) : mg "_law_drawn" = some (.ref (ga K "_law_drawn")) := let ⟨_, X, G⟩ := T.ex; He.glo_ok X G (T.c.fact 9 rfl)
theorem Tx.g__law_next (T : Tx K mg) : mg "_law_next" = some (.ref (ga K "_law_next")) := let ⟨_, X, G⟩ := T.ex; He.glo_ok X G (T.c.fact 10 rfl)
theorem Tx.g_law (T : Tx K mg) : mg "law" = some (.ref (ga K "law")) := let ⟨_, X, G⟩ := T.ex; He.glo_ok X G (T.c.fact 11 rfl)
theorem Tx.g_Policy (T : Tx K mg) : mg "Policy" = some (.ref (ga K "Policy")) := let ⟨_, X, G⟩ := T.ex; He.glo_ok X G (T.c.fact 12 rfl)
theorem Tx.cls_Policy (T : Tx K mg) : Cls K (ga K "Policy") := He.cls_ok (T.c.fact 13 rfl)
theorem Tx.mkr_Policy (T : Tx K mg) : Mk K (ga K "Policy") (ma K (ga K "Policy") "__init__") := He.mkr_ok (T.c.fact 14 rfl)
theorem Tx.meth_Policy_after (T : Tx K mg) : Meth K (ga K "Policy") "after" (ma K (ga K "Policy") "after") := He.meth_ok (T.c.fact 15 rfl)
theorem Tx.noat_Policy_rules (T : Tx K mg) : NoAttr K (ga K "Policy") "rules" := He.noat_ok (T.c.fact 16 rfl)
theorem Tx.f_enumerate (T : Tx K mg) : mg "enumerate" = none := let ⟨_, X, G⟩ := T.ex; He.free_ok X G (T.c.fact 17 rfl)
theorem Tx.f_min (T : Tx K mg) : mg "min" = none := let ⟨_, X, G⟩ := T.ex; He.free_ok X G (T.c.fact 18 rfl)
theorem Tx.f_isinstance (T : Tx K mg) : mg "isinstance" = none := let ⟨_, X, G⟩ := T.ex; He.free_ok X G (T.c.fact 19 rfl)
theorem Tx.f_int (T : Tx K mg) : mg "int" = none := let ⟨_, X, G⟩ := T.ex; He.free_ok X G (T.c.fact 20 rfl)
theorem Tx.f_range (T : Tx K mg) : mg "range" = none := let ⟨_, X, G⟩ := T.ex; He.free_ok X G (T.c.fact 21 rfl)
theorem Tx.f_tuple (T : Tx K mg) : mg "tuple" = none := let ⟨_, X, G⟩ := T.ex; He.free_ok X G (T.c.fact 22 rfl)
theorem Tx.f_list (T : Tx K mg) : mg "list" = none := let ⟨_, X, G⟩ := T.ex; He.free_ok X G (T.c.fact 23 rfl)
theorem Tx.f_bool (T : Tx K mg) : mg "bool" = none := let ⟨_, X, G⟩ := T.ex; He.free_ok X G (T.c.fact 24 rfl)
theorem Tx.f_str (T : Tx K mg) : mg "str" = none := let ⟨_, X, G⟩ := T.ex; He.free_ok X G (T.c.fact 25 rfl)
theorem Tx.f_len (T : Tx K mg) : mg "len" = none := let ⟨_, X, G⟩ := T.ex; He.free_ok X G (T.c.fact 26 rfl)
theorem Tx.x_BROKEN (T : Tx K mg) : ∃ t, mg "BROKEN" = some (.int (-1) t) := let ⟨_, X, G⟩ := T.ex; He.int_ok X G (T.c.fact 27 rfl)
theorem Tx.c_BROKEN (T : Tx K mg) : mg "BROKEN" = some (.int (-1) T.x_BROKEN.choose) := T.x_BROKEN.choose_spec
end
end BX

namespace BX
open PySem PySem.Spec PyProof.Rows L2 He BL
/-! ### own steps of the walk, by keys -/
set_option hygiene false in
local macro_rules | `(tactic| fail "i3") => `(tactic| intro HM kM xM)
set_option hygiene false in
local macro_rules | `(tactic| fail "i5") => `(tactic| intro pN HN hpN hkN hxN)
set_option hygiene false in
local macro_rules | `(tactic| fail "i4") => `(tactic| intro pN HN hkN hxN)
set_option hygiene false in
local macro_rules | `(tactic| fail "i6") => `(tactic| intro pN dN HN hpN hdN hkN hxN)
set_option hygiene false in
local macro_rules | `(tactic| fail "ic") => `(tactic| intro hc)
set_option hygiene false in
local macro_rules | `(tactic| fail "tr") => `(tactic| first
  | with_reducible exact Tr.refl _
  | ((with_reducible apply tr_1); (case ed => with_reducible assumption); (case nx => fail "tr")))
set_option hygiene false in
local macro_rules | `(tactic| fail "tk") => `(tactic| first
  | with_reducible assumption
  | ((with_reducible apply tk_0); (case nx => with_reducible assumption))
  | ((with_reducible apply tk_P); (case nx => with_reducible assumption))
  | ((with_reducible apply tk_1); (case ed => with_reducible assumption); (case nx => fail "tk")))
set_option hygiene false in
local macro_rules | `(tactic| fail "ne") => `(tactic| first
  | with_reducible assumption
  | (with_reducible apply ne_s; with_reducible assumption)
  | (with_reducible apply ne_1; (case fr => with_reducible assumption); (case nx => fail "tk"))
  | (with_reducible apply ne_2; (case fr => with_reducible assumption); (case nx => fail "tk")))
set_option hygiene false in
local macro_rules | `(tactic| fail "lk") => `(tactic| first
  | with_reducible assumption
  | ((with_reducible apply lk_at0); (case ed => with_reducible assumption); (case nx => fail "lk"))
  | ((with_reducible apply lk_at1); (case ed => with_reducible assumption); (case ne => fail "ne"); (case nx => fail "lk"))
  | ((with_reducible apply lk_at2); (case ed => with_reducible assumption); (case ne => fail "ne"); (case ne2 => fail "ne"); (case nx => fail "lk"))
  | ((with_reducible apply lk_at3); (case ed => with_reducible assumption); (case ne => fail "ne"); (case ne2 => fail "ne"); (case ne3 => fail "ne"); (case nx => fail "lk"))
  | ((with_reducible apply lk_T); (case ed => with_reducible assumption); (case nx => fail "lk"))
  | ((with_reducible apply lk_T0); fail "lk")
  | ((with_reducible apply lk_F); (case ed => with_reducible assumption); (case nx => fail "lk"))
  | ((with_reducible apply lk_LF); fail "lk")
  | ((with_reducible apply lk_L0); fail "lk")
  | ((with_reducible apply lk_D); (case ed => with_reducible assumption); (case nx => fail "lk"))
  | ((with_reducible apply lk_Ds); (case ed => with_reducible assumption); (case nx => fail "lk"))
  | ((with_reducible apply lk_P0); (case ed => with_reducible assumption); (case nx => fail "lk"))
  | ((with_reducible apply lk_P1); (case ed => with_reducible assumption); (case ne => fail "ne"); (case nx => fail "lk"))
  | ((with_reducible apply PolicyAt.k0); (case ed => with_reducible assumption); (case nx => fail "lk"))
  | ((with_reducible apply PolicyAt.k1); (case ed => with_reducible assumption); (case ne => fail "ne"); (case nx => fail "lk"))
  | ((with_reducible apply lk_R); fail "lk")
  | with_reducible exact Fp.i _
  | with_reducible exact Fp.s _
  | with_reducible exact Fp.b _
  | with_reducible exact Fp.n)
set_option hygiene false in
local macro_rules | `(tactic| fail "fr") => `(tactic| first
  | with_reducible assumption
  | (with_reducible apply fr_1; (case fr => with_reducible assumption); (case nx => fail "tr")))
set_option hygiene false in
local macro_rules | `(tactic| fail "mf") => `(tactic| first | exact .inl List.mem_cons_self | exact .inl (List.mem_cons_of_mem _ List.mem_cons_self) | exact .inl (List.mem_cons_of_mem _ (List.mem_cons_of_mem _ List.mem_cons_self)) | exact .inr (by fail "fr"))
set_option hygiene false in
local macro_rules | `(tactic| fail "kp") => `(tactic| first
  | with_reducible exact Kp.refl _ _
  | with_reducible assumption
  | ((with_reducible apply kp_0); (case ed => with_reducible assumption); (case nx => fail "kp"))
  | ((with_reducible apply kp_1); (case ed => with_reducible assumption); (case fr => fail "mf"); (case nx => fail "kp"))
  | ((with_reducible apply kp_2); (case ed => with_reducible assumption); (case fr => fail "mf"); (case fr2 => fail "mf"); (case nx => fail "kp"))
  | ((with_reducible apply kp_3); (case ed => with_reducible assumption); (case fr => fail "mf"); (case fr2 => fail "mf"); (case fr3 => fail "mf"); (case nx => fail "kp")))
local macro_rules | `(tactic| fail "sd") => `(tactic| first
  | with_reducible rfl
  | with_reducible assumption
  | omega
  | fail "lk"
  | fail "kp")
set_option hygiene false in
local macro_rules | `(tactic| fail "ite") => `(tactic| first
  | with_reducible apply g_iteT
  | with_reducible apply g_iteF
  | with_reducible apply g_iteNT
  | with_reducible apply g_iteNF
  | ((with_reducible apply g_iteP) <;> fail "ic")
  | ((with_reducible apply g_iteN) <;> fail "ic")
  | ((with_reducible apply g_iteNN) <;> fail "ic")
  | ((with_reducible apply g_iteB) <;> fail "ic"))
set_option hygiene false in
local macro_rules | `(tactic| fail "ix") => `(tactic| with_reducible first
  | exact atI_0
  | exact atI_1
  | exact atI_2
  | exact atI_3
  | exact atI_4
  | exact atI_5
  | exact atI_6
  | exact atI_7
  | exact atI_8
  | exact atI_9
  | exact atI_10
  | exact atI_neg1
  | assumption)
set_option hygiene false in
local macro_rules | `(tactic| fail "pf") => `(tactic| first
  | with_reducible exact pf_nil
  | with_reducible exact pf_eq
  | exact pf_ne (by decide +kernel) (by fail "pf"))
set_option hygiene false in
local macro_rules | `(tactic| fail "cu") => `(tactic| with_reducible first
  | exact cut_to1
  | exact cut_to2
  | exact cut_to3
  | exact cut_to4
  | exact cutV_to (by omega)
  | exact cutV_from (by omega)
  | rfl)
set_option hygiene false in
local macro_rules | `(tactic| fail "op") => `(tactic| first
  | with_reducible apply uAdd_I
  | with_reducible apply uSub_I
  | with_reducible apply uEq_I
  | with_reducible apply uLt_I
  | with_reducible apply uLe_I
  | with_reducible apply uGt_I
  | with_reducible apply uGe_I
  | with_reducible apply uNe_I
  | ((with_reducible apply uIx_L); (case hs => fail "lk"); (case e => fail "ix"))
  | ((with_reducible apply uIx_T); (case hs => fail "lk"); (case e => fail "ix"))
  | ((with_reducible apply uEq_St); (case e => rfl))
  | ((with_reducible apply uEq_Sf); (case e => decide +kernel))
  | with_reducible apply uEq_S
  | ((with_reducible apply uNe_St); (case e => rfl))
  | ((with_reducible apply uNe_Sf); (case e => decide +kernel))
  | with_reducible apply uNe_S
  | with_reducible apply uIs_R
  | with_reducible apply uIs_I
  | with_reducible apply uIs_NN
  | with_reducible apply uIs_S
  | with_reducible apply uIs_B
  | with_reducible apply uIs_N
  | with_reducible apply uIsnt_R
  | with_reducible apply uIsnt_I
  | with_reducible apply uIsnt_NN
  | with_reducible apply uIsnt_S
  | with_reducible apply uIsnt_B
  | with_reducible apply uIsnt_N
  | ((with_reducible apply uMod_I); (case hc => omega))
  | ((with_reducible apply uFdiv_I); (case hc => exact ⟨by omega, by omega⟩))
  | ((with_reducible apply uMul_I); (case hc => first | exact .inl ⟨by omega, by omega⟩ | exact .inr ⟨by omega, by omega⟩))
  | ((with_reducible apply uPow_I); (case hc => exact ⟨by decide +kernel, by decide +kernel, by decide +kernel⟩))
  | ((with_reducible apply uAdd_S); (case hl => fail "sz"))
  | ((with_reducible apply uAdd_L); (case h1 => fail "lk"); (case h2 => fail "lk"); (case hl => fail "sz"))
  | with_reducible apply uEq_B
  | with_reducible apply uNe_B)
set_option hygiene false in
local macro_rules | `(tactic| fail "sz") => `(tactic| first
  | (show _ ≤ sizeLine; decide)
  | (rw [sizeLine_eq]; omega)
  | (simp only [List.length_append, List.length_cons, List.length_nil, List.length_map, List.length_reverse, sizeLine_eq]; omega))
set_option hygiene false in
local macro_rules | `(tactic| fail "cb") => `(tactic| first
  | ((with_reducible apply uLen_L); (case hs => fail "lk"))
  | ((with_reducible apply uLen_T); (case hs => fail "lk"))
  | ((with_reducible apply uLen_S); (case hs => fail "sz"))
  | with_reducible apply uInt_I
  | with_reducible apply uInt_B
  | with_reducible apply uMin_I
  | with_reducible apply uMax_I
  | ((with_reducible apply uList_L); (case hs => fail "lk"))
  | ((with_reducible apply uList_T); (case hs => fail "lk"))
  | ((with_reducible apply uTuple_L); (case hs => fail "lk"))
  | ((with_reducible apply uTuple_T); (case hs => fail "lk"))
  | ((with_reducible apply uIsi_D); (case hd => fail "lk"); (case e => rfl))
  | ((with_reducible apply uIsi_A); (case hd => fail "lk"); (case hn => rfl)))
set_option hygiene false in
local macro_rules | `(tactic| fail "vl") => `(tactic| (intro Qv qv; (repeat fail "g1"); exact qv))
set_option hygiene false in
local macro_rules | `(tactic| fail "nb") => `(tactic| simp only [ba_t, ba_f, bo_t, bo_f, bn_t, bn_f, bd_t, bd_f, bt_t, bf_t, or_false, false_or, and_true, true_and, and_false, false_and, or_true, true_or, not_true_eq_false, not_false_eq_true, reduceCtorEq] at hc)
set_option hygiene false in
local macro_rules | `(tactic| fail "an") => `(tactic| first
  | ((with_reducible apply a_and); (case h1 => fail "an"); (case h2 => (intro hc; (try fail "nb"); fail "an")))
  | ((with_reducible apply a_or); (case h1 => fail "an"); (case h2 => (intro hc; (try fail "nb"); fail "an")))
  | ((with_reducible apply a_not); fail "an")
  | fail "vl")
set_option hygiene false in
local macro_rules | `(tactic| fail "g2") => `(tactic| first
  | with_reducible apply g_ret
  | ((with_reducible apply g_ifA); (case hA => fail "an"); (case' h2 => (intro hc; (try fail "nb"))); (case' h1 => (intro hc; (try fail "nb"))))
  | ((with_reducible apply g_ifO); (case hA => fail "an"); (case' h2 => (intro hc; (try fail "nb"))); (case' h1 => (intro hc; (try fail "nb"))))
  | with_reducible apply g_ifs
  | with_reducible apply g_and
  | with_reducible apply g_or
  | with_reducible apply g_not
  | with_reducible apply g_call
  | with_reducible apply g_cb
  | with_reducible apply g_drop
  | with_reducible apply g_next
  | with_reducible apply g_tup
  | with_reducible apply g_lst
  | with_reducible apply g_if
  | with_reducible apply g_andV
  | with_reducible apply g_orV
  | with_reducible apply g_notV
  | with_reducible apply g_LB
  | with_reducible apply g_tB
  | with_reducible apply g_tr
  | with_reducible apply g_sub
  | with_reducible apply g_un
  | with_reducible apply g_neg
  | with_reducible apply g_retN
  | with_reducible apply g_rng
  | with_reducible apply g_rng2
  | with_reducible apply g_fe
  | ((with_reducible apply g_gtup); (case hs => fail "lk"); (case hn => rfl))
  | with_reducible apply g_gcons
  | with_reducible apply g_gnil
  | with_reducible apply g_fl
  | with_reducible apply g_ft
  | with_reducible apply g_frz
  | with_reducible apply g_bm
  | ((with_reducible apply g_bmL); (case hs => fail "lk"))
  | with_reducible apply g_bmS
  | with_reducible apply g_bm0
  | ((with_reducible apply g_bm0L); (case hs => fail "lk"))
  | ((with_reducible apply m_popS); (case ha => fail "lk"); fail "i3")
  | ((with_reducible apply m_append); (case ha => fail "lk"); (case hl => fail "sz"); fail "i3")
  | with_reducible apply g_sl
  | with_reducible apply g_nopart
  | with_reducible apply g_part
  | with_reducible apply g_LPart
  | ((with_reducible apply uSl_L); (case hs => fail "lk"); (case e => fail "cu"); fail "i5")
  | ((with_reducible apply uSl_T); (case hs => fail "lk"); (case e => fail "cu"); fail "i4")
  | ((with_reducible apply uSl_S); (case hl => fail "sz"))
  | with_reducible apply g_rev
  | ((with_reducible apply g_LRev); (case hs => fail "lk"); fail "i5")
  | with_reducible apply g_lcr
  | with_reducible apply g_lcl
  | with_reducible apply g_lct
  | ((with_reducible apply g_turn); (case e => rfl))
  | ((with_reducible apply g_LApp); (case nx => fail "lk"); (case hl => fail "sz"); fail "i3")
  | with_reducible apply g_fld
  | ((with_reducible apply g_LFld); (case ha => fail "lk"); (case cl => fail "cl"); (case na => fail "na"); (case lf => rfl))
  | with_reducible apply g_fst
  | ((with_reducible apply g_LFSt); (case ha => fail "lk"); (case cl => fail "cl"); (case na => fail "na"); (case hl => first | decide | fail "sz"); (case ef => fail "pf"); fail "i3")
  | with_reducible apply g_make
  | ((with_reducible apply g_LMk); fail "i6")
  | with_reducible apply g_meth
  | ((with_reducible apply g_LMeth); (case ha => fail "lk"); (case lf => rfl))
  | with_reducible apply g_break
  | with_reducible apply g_truI
  | with_reducible apply g_truB
  | with_reducible apply g_truN
  | ((with_reducible apply g_truL); (case hs => fail "lk"))
  | ((with_reducible apply g_truT); (case hs => fail "lk"))
  | ((with_reducible apply g_setL); (case ha => fail "lk"); (case e => ((with_reducible show ixN (List.length (_ :: _)) _ = _); rfl)); (case ey => first | (simp only [Int.reduceToNat, List.set_cons_succ, List.set_cons_zero]; rfl) | rfl); fail "i3")
  | ((with_reducible apply g_newT); (case hl => fail "sz"); fail "i5")
  | ((with_reducible apply g_newL); (case hl => fail "sz"); fail "i5")
  | fail "op"
  | fail "cb"
  | fail "ite"
  | fail "sp"
  | fail "i5")
set_option hygiene false in
local macro_rules | `(tactic| fail "g1") => `(tactic| first
  | with_reducible apply g_op
  | with_reducible apply g_c
  | ((with_reducible apply g_var); (case e => rfl))
  | with_reducible apply g_seq
  | with_reducible apply g_cons
  | with_reducible apply g_nil
  | with_reducible apply g_asg
  | ((with_reducible apply g_name); (case e => rfl))
  | with_reducible apply g_test
  | with_reducible apply g_LT
  | fail "op"
  | fail "g2")
set_option hygiene false in
local macro_rules | `(tactic| fail "go") => `(tactic| repeat' (first
  | with_reducible apply g_op
  | with_reducible apply g_c
  | ((with_reducible apply g_var); (case e => rfl))
  | with_reducible apply g_seq
  | with_reducible apply g_cons
  | with_reducible apply g_nil
  | with_reducible apply g_asg
  | ((with_reducible apply g_name); (case e => rfl))
  | with_reducible apply g_test
  | with_reducible apply g_LT
  | fail "op"
  | fail "g2"))

set_option hygiene false in
local macro_rules | `(tactic| fail "cl") => `(tactic| with_reducible first
  | exact T.cls_Policy)
set_option hygiene false in
local macro_rules | `(tactic| fail "na") => `(tactic| with_reducible first
  | exact T.noat_Policy_rules)
set_option hygiene false in
local macro_rules | `(tactic| fail "sp") => `(tactic| first
  | ((with_reducible apply SpI_law_same.mk); (case hx => fail "lk"); (case hy => fail "lk"); (first | (case hn => first | assumption | (simp only [dep, depL]; omega) | (simp only [dep, depL]; decide)) | skip); (first | (case hl => first | assumption | rfl) | skip); (case' k => intro H' g1)))
section
variable {P : Program} {w : World} {K : PySem.W.Frag} {mg : Str → Option Value} {base : Heap}

theorem sc_law_same : FnScope ["_law_actual", "_law_due", "_law_k"] ["_law_actual", "_law_due"] (defScope s_law_same) := ⟨rfl, rfl, rfl, by decide +kernel, rfl, by decide +kernel, by decide +kernel⟩
inductive SpI_law_same (K : PySem.W.Frag) (n : Nat) (H : Hp) (Q : VK) (E : XK) : List V → Prop
  | mk (x y : V) (a d : PyData) (hx : Fp K H a x) (hy : Fp K H d y) (hn : dep d < n) (hl : small d = true) (k : ∀ H', Kp [] H H' → Q (.bl (dsame a d)) H') : SpI_law_same K n H Q E [x, y]
abbrev Sp_law_same (K : PySem.W.Frag) (n : Nat) : Sp := fun vs H Q E => SpI_law_same K n H Q E vs
theorem ok_law_same_n (T : Tx K mg) (n : Nat) : Cal P w K mg base CX0 n (ga K "_law_same") ["_law_actual", "_law_due"] (Sp_law_same K n) := by
  obtain ⟨fd, F⟩ := T.c.def_ 9 rfl
  have b := F.bindsN (ps := ["_law_actual", "_law_due"]) fun _ _ _ _ _ _ us hl => match us, hl with | [_, _], _ => rfl
  induction n with
  | zero => exact Cal.zero b F.kp fun vs H Q E h => by cases h; omega
  | succ n ih =>
    have C_law_same := ih
    refine Cal.of (k := n) F b sc_law_same (fun vs H Q E h => by cases h; rfl) (fun cdv A outer s H vs Q E hRm h => ?_)
    have sc := sc_law_same
    have hu64 := hRm.units
    cases h with | mk x y a d hx hy hn hl k =>
    refine ⟨_, pss_cons (ps_if ((pw_or (k_tr K (pe_callB (k_isi K) (by rfl) T.f_isinstance (by decide +kernel) (pa_cons (pv 1) (pa_cons (pe_bltn (v := .ty "tuple") (by rfl) T.f_tuple (by decide +kernel) rfl) pa_nil)))) (pw_or1 (k_tr K (pe_callB (k_isi K) (by rfl) T.f_isinstance (by decide +kernel) (pa_cons (pv 1) (pa_cons (pe_bltn (v := .ty "list") (by rfl) T.f_list (by decide +kernel) rfl) pa_nil)))))).pt) (pss_cons (ps_if ((pw_or (pt_cmpR (k_ne K hu64) (pe_callB (k_isi K) (by rfl) T.f_isinstance (by decide +kernel) (pa_cons (pv 1) (pa_cons (pe_bltn (v := .ty "tuple") (by rfl) T.f_tuple (by decide +kernel) rfl) pa_nil))) (pe_callB (k_isi K) (by rfl) T.f_isinstance (by decide +kernel) (pa_cons (pv 0) (pa_cons (pe_bltn (v := .ty "tuple") (by rfl) T.f_tuple (by decide +kernel) rfl) pa_nil))) (nomark _)) (pw_or1 (pt_cmpR (k_ne K hu64) (pe_callB (k_isi K) (by rfl) T.f_isinstance (by decide +kernel) (pa_cons (pv 1) (pa_cons (pe_bltn (v := .ty "list") (by rfl) T.f_list (by decide +kernel) rfl) pa_nil))) (pe_callB (k_isi K) (by rfl) T.f_isinstance (by decide +kernel) (pa_cons (pv 0) (pa_cons (pe_bltn (v := .ty "list") (by rfl) T.f_list (by decide +kernel) rfl) pa_nil))) (nomark _)))).pt) (pss_one (ps_ret pe_bl)) pss_nil) (pss_cons (ps_if (pt_cmpR (k_ne K hu64) (pe_callB (k_len K) (by rfl) T.f_len (by decide +kernel) (pa_cons (pv 0) pa_nil)) (pe_callB (k_len K) (by rfl) T.f_len (by decide +kernel) (pa_cons (pv 1) pa_nil)) (nomark _)) (pss_one (ps_ret pe_bl)) pss_nil) (pss_cons (ps_for PassesOwn.never rfl (pi_range1 (by rfl) T.f_range (pa_cons (pe_callB (k_len K) (by rfl) T.f_len (by decide +kernel) (pa_cons (pv 1) pa_nil)) pa_nil)) (pg_name (i := 2) sc.nd rfl (Or.inl rfl)) (pss_one (ps_if (pt_not (k_tr K (pc_call C_law_same hRm (by rfl) T.g__law_same (pa_cons (k_ix K (pv 0) (pv 2)) (pa_cons (k_ix K (pv 1) (pv 2)) pa_nil))))) (pss_one (ps_ret pe_bl)) pss_nil))) (pss_one (ps_ret pe_bl))))) pss_nil) (pss_cons (ps_if ((pw_or (pt_cmpR u_is (pv 1) pe_non (nomark _)) (pw_or1 (k_tr K (pe_callB (k_isi K) (by rfl) T.f_isinstance (by decide +kernel) (pa_cons (pv 1) (pa_cons (pe_bltn (v := .ty "bool") (by rfl) T.f_bool (by decide +kernel) rfl) pa_nil)))))).pt) (pss_one (ps_ret (pe_and (pe_cmpR (k_eq K hu64) (pe_cmpR u_is (pv 0) pe_non (nomark _)) (pe_cmpR u_is (pv 1) pe_non (nomark _)) (nomark _)) (pe_and (pe_or (pe_cmpR u_is (pv 1) pe_non (nomark _)) (pe_one (pe_callB (k_isi K) (by rfl) T.f_isinstance (by decide +kernel) (pa_cons (pv 0) (pa_cons (pe_bltn (v := .ty "bool") (by rfl) T.f_bool (by decide +kernel) rfl) pa_nil))))) (pe_one (pe_cmpR (k_eq K hu64) (pv 0) (pv 1) (nomark _))))))) pss_nil) (pss_cons (ps_if (k_tr K (pe_callB (k_isi K) (by rfl) T.f_isinstance (by decide +kernel) (pa_cons (pv 1) (pa_cons (pe_bltn (v := .ty "int") (by rfl) T.f_int (by decide +kernel) rfl) pa_nil)))) (pss_one (ps_ret (pe_and (pe_callB (k_isi K) (by rfl) T.f_isinstance (by decide +kernel) (pa_cons (pv 0) (pa_cons (pe_bltn (v := .ty "int") (by rfl) T.f_int (by decide +kernel) rfl) pa_nil))) (pe_and (pe_not (pe_callB (k_isi K) (by rfl) T.f_isinstance (by decide +kernel) (pa_cons (pv 0) (pa_cons (pe_bltn (v := .ty "bool") (by rfl) T.f_bool (by decide +kernel) rfl) pa_nil)))) (pe_one (pe_cmpR (k_eq K hu64) (pv 0) (pv 1) (nomark _))))))) pss_nil) (pss_one (ps_ret (pe_and (pe_callB (k_isi K) (by rfl) T.f_isinstance (by decide +kernel) (pa_cons (pv 0) (pa_cons (pe_bltn (v := .ty "str") (by rfl) T.f_str (by decide +kernel) rfl) pa_nil))) (pe_one (pe_cmpR (k_eq K hu64) (pv 0) (pv 1) (nomark _)))))))), ?_⟩
    refine g_start (σ := [some x, some y, none]) rfl ?_
    cases d with
    | dict l => exact (Fp.small_dict hy l rfl).elim
    | none =>
      have hy' := hy
      simp only [Fp] at hy'
      subst hy'
      fail "go"
      · have e : x = .non := of_decide_eq_true hc
        subst e
        have ea : a = .none := by cases a <;> simp only [Fp] at hx <;> first | rfl | (obtain ⟨_, _, z, _⟩ := hx; cases z) | cases hx
        subst ea
        exact .inl ⟨rfl, k _ (Kp.refl _ _)⟩
      · refine q_bl (k _ (Kp.refl _ _)) ?_
        have e : ¬ x = .non := fun z => hc (decide_eq_true z)
        cases a <;> first | rfl | (simp only [Fp] at hx; exact absurd hx e)
    | bool y =>
      have hy' := hy
      simp only [Fp] at hy'
      subst hy'
      fail "go"
      · cases a <;> simp [isTb, isT] at hc
        simp only [Fp] at hx
        subst hx
        fail "go"
        exact k _ (Kp.refl _ _)
      all_goals
        refine q_bl (k _ (Kp.refl _ _)) ?_
        cases a <;> first | rfl | (simp only [Fp] at hx; simp [isTb, isT] at hc; done) | (simp only [Fp] at hx; subst hx; simp at hc)
    | int y =>
      have hy' := hy
      simp only [Fp] at hy'
      subst hy'
      fail "go"
      · rename_i h1
        cases a <;> simp [isTb, isT] at hc h1
        simp only [Fp] at hx
        subst hx
        fail "go"
        exact k _ (Kp.refl _ _)
      · rename_i h1
        refine q_bl (k _ (Kp.refl _ _)) ?_
        cases a <;> first | rfl | (simp [isTb, isT] at hc h1; done)
      · refine q_bl (k _ (Kp.refl _ _)) ?_
        cases a <;> first | rfl | (simp [isTb, isT] at hc; done)
    | str s =>
      have hy' := hy
      simp only [Fp] at hy'
      subst hy'
      fail "go"
      · cases a <;> simp [isTb, isT] at hc
        simp only [Fp] at hx
        subst hx
        fail "go"
        exact k _ (Kp.refl _ _)
      · refine q_bl (k _ (Kp.refl _ _)) ?_
        cases a <;> first | rfl | simp [isTb, isT] at hc
    | tuple ds =>
      have hy' := hy
      simp only [Fp] at hy'
      obtain ⟨b1, ys, rfl, hs, hys⟩ := hy'
      have hl2 : ds.length ≤ 100000 ∧ smallL ds = true := by simpa [small] using hl
      have hn2 : depL ds < n := by simp only [dep] at hn; omega
      have ely := FpL.len hys
      fail "go"
      · refine q_bl (k _ (Kp.refl _ _)) ?_
        cases a <;> first | rfl | (simp [isTb, isT] at hc; done)
      · have ea : ∃ as, a = .tuple as := by cases a <;> first | exact ⟨_, rfl⟩ | (simp [isTb, isT] at hc; done)
        obtain ⟨as, rfl⟩ := ea
        have hx' := hx
        simp only [Fp] at hx'
        obtain ⟨b2, xs, rfl, hs2, hxs⟩ := hx'
        have elx := FpL.len hxs
        fail "go"
        · refine q_bl (k _ (Kp.refl _ _)) ?_
          cases e : dsame (.tuple as) (.tuple ds) with
          | false => rfl
          | true =>
            have z := dsame_eq _ _ e
            cases z
            omega
        · refine g_forR (by omega) (fun i σ H' => ∃ z, σ = [some (.ref b2), some (.ref b1), z] ∧ Kp [] H H' ∧ ∀ j : Nat, j < i → ∀ a' d', as[j]? = some a' → ds[j]? = some d' → dsame a' d' = true) ⟨none, rfl, Kp.refl _ _, fun j hj => absurd hj (Nat.not_lt_zero _)⟩ ?_ ?_
          · rintro i σ H1 hi ⟨z, rfl, k1, hp⟩
            fail "go"
            refine uIx_TD (ds := as) (by fail "lk") (by fail "lk") (by omega) (by omega) fun v1 a1 e1 f1 => ?_
            fail "go"
            refine uIx_TD (ds := ds) (by fail "lk") (by fail "lk") (by omega) (by omega) fun v2 d2 e2 f2 => ?_
            have hn3 : dep d2 < n := by have := dep_get (Nat.le_refl _) e2; omega
            have hs3 : small d2 = true := small_get hl2.2 e2
            fail "go"
            · refine q_bl (k _ (by fail "kp")) ?_
              cases e : dsame (.tuple as) (.tuple ds) with
              | false => rfl
              | true =>
                have z := dsameL_get (show dsameL as ds = true from e) e1 e2
                rw [z] at hc
                cases hc
            · refine ⟨_, rfl, by fail "kp", fun j hj a' d' ea ed => ?_⟩
              by_cases hj2 : j < i
              · exact hp j hj2 a' d' ea ed
              · have ej : j = i := by omega
                subst ej
                have eI : ((j : Int)).toNat = j := by omega
                rw [eI] at e1 e2
                rw [e1] at ea
                rw [e2] at ed
                cases ea
                cases ed
                cases q : dsame a1 d2 with
                | true => rfl
                | false => rw [q] at hc; cases hc
          · rintro σ H1 ⟨z, rfl, k1, hp⟩
            fail "go"
            refine q_bl (k _ (by fail "kp")) ?_
            refine Eq.symm (dsameL_all (by omega) fun j a' d' ea ed => hp j ?_ a' d' ea ed)
            have := (List.getElem?_eq_some_iff.mp ed).1
            omega
    | list ds =>
      have hy' := hy
      simp only [Fp] at hy'
      obtain ⟨b1, ys, rfl, hs, hys⟩ := hy'
      have hl2 : ds.length ≤ 100000 ∧ smallL ds = true := by simpa [small] using hl
      have hn2 : depL ds < n := by simp only [dep] at hn; omega
      have ely := FpL.len hys
      fail "go"
      · refine q_bl (k _ (Kp.refl _ _)) ?_
        cases a <;> first | rfl | (simp [isTb, isT] at hc; done)
      · have ea : ∃ as, a = .list as := by cases a <;> first | exact ⟨_, rfl⟩ | (simp [isTb, isT] at hc; done)
        obtain ⟨as, rfl⟩ := ea
        have hx' := hx
        simp only [Fp] at hx'
        obtain ⟨b2, xs, rfl, hs2, hxs⟩ := hx'
        have elx := FpL.len hxs
        fail "go"
        · refine q_bl (k _ (Kp.refl _ _)) ?_
          cases e : dsame (.list as) (.list ds) with
          | false => rfl
          | true =>
            have z := dsame_eq _ _ e
            cases z
            omega
        · refine g_forR (by omega) (fun i σ H' => ∃ z, σ = [some (.ref b2), some (.ref b1), z] ∧ Kp [] H H' ∧ ∀ j : Nat, j < i → ∀ a' d', as[j]? = some a' → ds[j]? = some d' → dsame a' d' = true) ⟨none, rfl, Kp.refl _ _, fun j hj => absurd hj (Nat.not_lt_zero _)⟩ ?_ ?_
          · rintro i σ H1 hi ⟨z, rfl, k1, hp⟩
            fail "go"
            refine uIx_LD (ds := as) (by fail "lk") (by fail "lk") (by omega) (by omega) fun v1 a1 e1 f1 => ?_
            fail "go"
            refine uIx_LD (ds := ds) (by fail "lk") (by fail "lk") (by omega) (by omega) fun v2 d2 e2 f2 => ?_
            have hn3 : dep d2 < n := by have := dep_get (Nat.le_refl _) e2; omega
            have hs3 : small d2 = true := small_get hl2.2 e2
            fail "go"
            · refine q_bl (k _ (by fail "kp")) ?_
              cases e : dsame (.list as) (.list ds) with
              | false => rfl
              | true =>
                have z := dsameL_get (show dsameL as ds = true from e) e1 e2
                rw [z] at hc
                cases hc
            · refine ⟨_, rfl, by fail "kp", fun j hj a' d' ea ed => ?_⟩
              by_cases hj2 : j < i
              · exact hp j hj2 a' d' ea ed
              · have ej : j = i := by omega
                subst ej
                have eI : ((j : Int)).toNat = j := by omega
                rw [eI] at e1 e2
                rw [e1] at ea
                rw [e2] at ed
                cases ea
                cases ed
                cases q : dsame a1 d2 with
                | true => rfl
                | false => rw [q] at hc; cases hc
          · rintro σ H1 ⟨z, rfl, k1, hp⟩
            fail "go"
            refine q_bl (k _ (by fail "kp")) ?_
            refine Eq.symm (dsameL_all (by omega) fun j a' d' ea ed => hp j ?_ a' d' ea ed)
            have := (List.getElem?_eq_some_iff.mp ed).1
            omega
theorem ok_law_same (T : Tx K mg) : Cal P w K mg base CX0 60 (ga K "_law_same") ["_law_actual", "_law_due"] (Sp_law_same K 60) := ok_law_same_n T 60
end
set_option hygiene false in
local macro_rules | `(tactic| fail "cl") => `(tactic| with_reducible first
  | exact T.cls_Policy)
set_option hygiene false in
local macro_rules | `(tactic| fail "na") => `(tactic| with_reducible first
  | exact T.noat_Policy_rules)
set_option hygiene false in
local macro_rules | `(tactic| fail "sp") => `(tactic| first
  | fail "none")
section
variable {P : Program} {w : World} {K : PySem.W.Frag} {mg : Str → Option Value} {base : Heap}

inductive SpI_Policy_after (K : PySem.W.Frag) (H : Hp) (Q : VK) (E : XK) : List V → Prop
  | mk (a : Addr) (rules : List Rule) (st : Int) (e : Ev) (v : V) (ha : PolicyAt K H a rules) (he : Fp K H (encEv e) v) (k : ∀ H', Kp [] H H' → Q (.int (polAfter rules st e)) H') : SpI_Policy_after K H Q E [.ref a, .int st, v]
abbrev Sp_Policy_after (K : PySem.W.Frag) : Sp := fun vs H Q E => SpI_Policy_after K H Q E vs
theorem sc_Policy_after : FnScope ["self", "state", "event", "component", "rule"] ["self", "state", "event"] (defScope s_Policy_after) := ⟨rfl, rfl, rfl, by decide +kernel, rfl, by decide +kernel, by decide +kernel⟩
theorem ok_Policy_after (T : Tx K mg) : Cal P w K mg base CX0 1 (ma K (ga K "Policy") "after") ["self", "state", "event"] (Sp_Policy_after K) := by

  obtain ⟨fd, F⟩ := T.c.def_ 1 rfl
  refine Cal.of (k := 0) F (F.bindsN fun _ _ _ _ _ _ us hl => match us, hl with | [_, _, _], _ => rfl) sc_Policy_after (fun vs H Q E h => by cases h; rfl) (fun cdv A outer s H vs Q E hRm h => ?_)
  have sc := sc_Policy_after
  have hu64 := hRm.units
  cases h with | mk a rules st e v ha he k =>
    refine ⟨_, pss_cons (ps_if (pt_cmpR (k_eq K hu64) (pv 1) (pe_glob (v := .int (-1)) (by rfl) (T.c_BROKEN) ⟨_, rfl⟩) (nomark _)) (pss_one (ps_ret (pe_glob (v := .int (-1)) (by rfl) (T.c_BROKEN) ⟨_, rfl⟩))) pss_nil) (pss_cons (ps_set (i := 3) sc.nd rfl (Or.inl rfl) (pe_ifExp (pt_cmpR (k_eq K hu64) (k_ix K (pv 2) pe_int) pe_str (nomark _)) pe_int (k_ix K (pv 2) pe_int))) (pss_cons (ps_for PassesOwn.never rfl (k_it K (k_fld K (pv 0))) (pg_name (i := 4) sc.nd rfl (Or.inl rfl)) (pss_one (ps_if ((pw_and (pt_cmpR (k_eq K hu64) (k_ix K (pv 4) pe_int) (pv 1) (nomark _)) (pw_and (pt_cmpR (k_eq K hu64) (k_ix K (pv 4) pe_int) (k_ix K (pv 2) pe_int) (nomark _)) (pw_and1 (pt_cmpR (k_eq K hu64) (k_ix K (pv 4) pe_int) (pv 3) (nomark _))))).pt) (pss_one (ps_ret (k_ix K (pv 4) pe_int))) pss_nil))) (pss_one (ps_ret (pv 1))))), ?_⟩
    refine g_start (σ := [some (.ref a), some (.int st), some (v), none, none]) rfl ?_
    obtain ⟨dx, t, xs, hp, ht, hx⟩ := ha
    obtain ⟨b, rfl, hb⟩ := he.evE
    have elx := FpL.len hx
    rw [List.length_map] at elx
    cases e with
    | call f t1 p1 w =>
      simp only [evVals] at hb
      fail "go"
      · exact q_int (k _ (Kp.refl _ _)) (by unfold polAfter; rw [if_pos hc])
      refine g_forT (by fail "lk") (fun i σ H' => ∃ z, σ = [some (.ref a), some (.int st), some (.ref b), some (.int f), z] ∧ Kp [] H H' ∧ ∀ j r, j < i → rules[j]? = some r → r.fits st (.call f t1 p1 w) = false) ⟨_, rfl, by fail "kp", fun j r hj => absurd hj (Nat.not_lt_zero _)⟩ ?_ ?_ ?_
      · rintro i σ H1 hi ⟨z, rfl, k1, hn⟩
        fail "lk"
      · rintro i x σ H1 hi ⟨z, rfl, k1, hn⟩
        obtain ⟨d, hd, hf⟩ : ∃ d, (rules.map encRule)[i]? = some d ∧ Fp K H1 d x := by
          have hlt : i < rules.length := by
            have := (List.getElem?_eq_some_iff.mp hi).1
            omega
          obtain ⟨u, h1, h2⟩ := FpL.get hx (d := encRule rules[i]) (i := i) (by rw [List.getElem?_map, List.getElem?_eq_getElem hlt]; rfl)
          rw [hi] at h1
          cases h1
          exact ⟨_, by rw [List.getElem?_map, List.getElem?_eq_getElem hlt]; rfl, Fp.kp k1 _ _ h2⟩
        obtain ⟨r, hr, rfl⟩ := map_some hd
        obtain ⟨ra, rfl, hra⟩ := hf.ruleE
        fail "go"
        · refine q_int (k _ (by fail "kp")) ?_
          unfold polAfter
          rw [if_neg (by assumption), find_at hr (by simp [Rule.fits, Ev.kind, Ev.by', hc]) fun j y hj hy => hn j y hj hy]
        · refine ⟨_, rfl, by fail "kp", fun j y hj hy => ?_⟩
          by_cases hj2 : j < i
          · exact hn j y hj2 hy
          · have ej : j = i := by omega
            subst ej
            rw [hr] at hy
            cases hy
            cases q : r.fits st (.call f t1 p1 w) with
            | false => rfl
            | true =>
              simp only [Rule.fits, Bool.and_eq_true] at q
              exact absurd ⟨of_decide_eq_true q.1, of_decide_eq_true q.2.1, of_decide_eq_true q.2.2⟩ hc
      · rintro σ H1 ⟨z, rfl, k1, hn⟩
        fail "go"
        refine q_int (k _ (by fail "kp")) ?_
        unfold polAfter
        rw [if_neg (by assumption), find_no fun j y hy => hn j y (by have := (List.getElem?_eq_some_iff.mp hy).1; omega) hy]
    | ret f t1 w =>
      simp only [evVals] at hb
      fail "go"
      · exact q_int (k _ (Kp.refl _ _)) (by unfold polAfter; rw [if_pos hc])
      refine g_forT (by fail "lk") (fun i σ H' => ∃ z, σ = [some (.ref a), some (.int st), some (.ref b), some (.int f), z] ∧ Kp [] H H' ∧ ∀ j r, j < i → rules[j]? = some r → r.fits st (.ret f t1 w) = false) ⟨_, rfl, by fail "kp", fun j r hj => absurd hj (Nat.not_lt_zero _)⟩ ?_ ?_ ?_
      · rintro i σ H1 hi ⟨z, rfl, k1, hn⟩
        fail "lk"
      · rintro i x σ H1 hi ⟨z, rfl, k1, hn⟩
        obtain ⟨d, hd, hf⟩ : ∃ d, (rules.map encRule)[i]? = some d ∧ Fp K H1 d x := by
          have hlt : i < rules.length := by
            have := (List.getElem?_eq_some_iff.mp hi).1
            omega
          obtain ⟨u, h1, h2⟩ := FpL.get hx (d := encRule rules[i]) (i := i) (by rw [List.getElem?_map, List.getElem?_eq_getElem hlt]; rfl)
          rw [hi] at h1
          cases h1
          exact ⟨_, by rw [List.getElem?_map, List.getElem?_eq_getElem hlt]; rfl, Fp.kp k1 _ _ h2⟩
        obtain ⟨r, hr, rfl⟩ := map_some hd
        obtain ⟨ra, rfl, hra⟩ := hf.ruleE
        fail "go"
        · refine q_int (k _ (by fail "kp")) ?_
          unfold polAfter
          rw [if_neg (by assumption), find_at hr (by simp [Rule.fits, Ev.kind, Ev.by', hc]) fun j y hj hy => hn j y hj hy]
        · refine ⟨_, rfl, by fail "kp", fun j y hj hy => ?_⟩
          by_cases hj2 : j < i
          · exact hn j y hj2 hy
          · have ej : j = i := by omega
            subst ej
            rw [hr] at hy
            cases hy
            cases q : r.fits st (.ret f t1 w) with
            | false => rfl
            | true =>
              simp only [Rule.fits, Bool.and_eq_true] at q
              exact absurd ⟨of_decide_eq_true q.1, of_decide_eq_true q.2.1, of_decide_eq_true q.2.2⟩ hc
      · rintro σ H1 ⟨z, rfl, k1, hn⟩
        fail "go"
        refine q_int (k _ (by fail "kp")) ?_
        unfold polAfter
        rw [if_neg (by assumption), find_no fun j y hy => hn j y (by have := (List.getElem?_eq_some_iff.mp hy).1; omega) hy]
    | fin w =>
      simp only [evVals] at hb
      fail "go"
      · exact q_int (k _ (Kp.refl _ _)) (by unfold polAfter; rw [if_pos hc])
      refine g_forT (by fail "lk") (fun i σ H' => ∃ z, σ = [some (.ref a), some (.int st), some (.ref b), some (.int 0), z] ∧ Kp [] H H' ∧ ∀ j r, j < i → rules[j]? = some r → r.fits st (.fin w) = false) ⟨_, rfl, by fail "kp", fun j r hj => absurd hj (Nat.not_lt_zero _)⟩ ?_ ?_ ?_
      · rintro i σ H1 hi ⟨z, rfl, k1, hn⟩
        fail "lk"
      · rintro i x σ H1 hi ⟨z, rfl, k1, hn⟩
        obtain ⟨d, hd, hf⟩ : ∃ d, (rules.map encRule)[i]? = some d ∧ Fp K H1 d x := by
          have hlt : i < rules.length := by
            have := (List.getElem?_eq_some_iff.mp hi).1
            omega
          obtain ⟨u, h1, h2⟩ := FpL.get hx (d := encRule rules[i]) (i := i) (by rw [List.getElem?_map, List.getElem?_eq_getElem hlt]; rfl)
          rw [hi] at h1
          cases h1
          exact ⟨_, by rw [List.getElem?_map, List.getElem?_eq_getElem hlt]; rfl, Fp.kp k1 _ _ h2⟩
        obtain ⟨r, hr, rfl⟩ := map_some hd
        obtain ⟨ra, rfl, hra⟩ := hf.ruleE
        fail "go"
        · refine q_int (k _ (by fail "kp")) ?_
          unfold polAfter
          rw [if_neg (by assumption), find_at hr (by simp [Rule.fits, Ev.kind, Ev.by', hc]) fun j y hj hy => hn j y hj hy]
        · refine ⟨_, rfl, by fail "kp", fun j y hj hy => ?_⟩
          by_cases hj2 : j < i
          · exact hn j y hj2 hy
          · have ej : j = i := by omega
            subst ej
            rw [hr] at hy
            cases hy
            cases q : r.fits st (.fin w) with
            | false => rfl
            | true =>
              simp only [Rule.fits, Bool.and_eq_true] at q
              exact absurd ⟨of_decide_eq_true q.1, of_decide_eq_true q.2.1, of_decide_eq_true q.2.2⟩ hc
      · rintro σ H1 ⟨z, rfl, k1, hn⟩
        fail "go"
        refine q_int (k _ (by fail "kp")) ?_
        unfold polAfter
        rw [if_neg (by assumption), find_no fun j y hy => hn j y (by have := (List.getElem?_eq_some_iff.mp hy).1; omega) hy]
end
set_option hygiene false in
local macro_rules | `(tactic| fail "cl") => `(tactic| with_reducible first
  | exact T.cls_Policy)
set_option hygiene false in
local macro_rules | `(tactic| fail "na") => `(tactic| with_reducible first
  | exact T.noat_Policy_rules)
set_option hygiene false in
local macro_rules | `(tactic| fail "sp") => `(tactic| first
  | ((with_reducible apply SpI_Policy_after.mk); (first | (case ha => fail "sd") | skip); (first | (case he => fail "sd") | skip); (case' k => intro H' g1)))
section
variable {P : Program} {w : World} {K : PySem.W.Frag} {mg : Str → Option Value} {base : Heap}

inductive SpI_broken_at (K : PySem.W.Frag) (H : Hp) (Q : VK) (E : XK) : List V → Prop
  | mk (a l : Addr) (rules : List Rule) (tr : List Ev) (xs : List V) (ha : PolicyAt K H a rules) (hl : H l = some (.lst xs) ∨ SqF K H l xs) (hx : FpL K H (tr.map encEv) xs) (k : ∀ H', Kp [] H H' → Q (match polBroken rules 0 0 tr with | some i => .int i | none => .non) H') : SpI_broken_at K H Q E [.ref a, .ref l]
abbrev Sp_broken_at (K : PySem.W.Frag) : Sp := fun vs H Q E => SpI_broken_at K H Q E vs
theorem sc_broken_at : FnScope ["policy", "trace", "state", "at", "event"] ["policy", "trace"] (defScope s_broken_at) := ⟨rfl, rfl, rfl, by decide +kernel, rfl, by decide +kernel, by decide +kernel⟩
theorem ok_broken_at (T : Tx K mg) : Cal P w K mg base CX0 2 (ga K "broken_at") ["policy", "trace"] (Sp_broken_at K) := by
  have C_Policy_after := ok_Policy_after (P := P) (w := w) (base := base) T
  obtain ⟨fd, F⟩ := T.c.def_ 3 rfl
  refine Cal.of (k := 1) F (F.bindsN fun _ _ _ _ _ _ us hl => match us, hl with | [_, _], _ => rfl) sc_broken_at (fun vs H Q E h => by cases h; rfl) (fun cdv A outer s H vs Q E hRm h => ?_)
  have sc := sc_broken_at
  have hu64 := hRm.units
  cases h with | mk a l rules tr xs ha hl hx k =>
    refine ⟨_, pss_cons (ps_set (i := 2) sc.nd rfl (Or.inl rfl) pe_int) (pss_cons (ps_for PassesOwn.never rfl (k_enum K (by rfl) T.f_enumerate (pa_cons (pv 1) pa_nil)) (k_gtup K (n := 2) rfl (pgs_cons (pg_name (i := 3) sc.nd rfl (Or.inl rfl)) (pgs_cons (pg_name (i := 4) sc.nd rfl (Or.inl rfl)) pgs_nil))) (pss_cons (ps_set (i := 2) sc.nd rfl (Or.inl rfl) (pc_meth (pv 0) T.cls_Policy T.meth_Policy_after C_Policy_after (hRm.mono (by decide)) (pa_cons (pv 2) (pa_cons (pv 4) pa_nil)))) (pss_one (ps_if (pt_cmpR (k_eq K hu64) (pv 2) (pe_glob (v := .int (-1)) (by rfl) (T.c_BROKEN) ⟨_, rfl⟩) (nomark _)) (pss_one (ps_ret (pv 3))) pss_nil)))) (pss_one (ps_ret pe_non))), ?_⟩
    refine g_start (σ := [some (.ref a), some (.ref l), none, none, none]) rfl ?_
    obtain ⟨dx, t, ys, hp, ht, hy⟩ := id ha
    have elx := FpL.len hx
    rw [List.length_map] at elx
    have hS : ∀ H', Kp [] H H' → SqL K H' l xs := fun H' k1 => hl.elim (fun z => by fail "lk") (fun z => by fail "lk")
    fail "go"
    refine g_forE (hS H (Kp.refl _ _)) (fun i σ H' => ∃ z z2, σ = [some (.ref a), some (.ref l), some (.int (polRun rules 0 (tr.take i))), z, z2] ∧ Kp [] H H' ∧ polBroken rules 0 0 tr = polBroken rules (polRun rules 0 (tr.take i)) i (tr.drop i)) ⟨_, _, rfl, by fail "kp", rfl⟩ ?_ ?_ ?_
    · rintro i σ H1 hi ⟨z, z2, rfl, k1, hb⟩
      exact hS _ k1
    · rintro i x σ H1 T1 H2 hi ⟨z, z2, rfl, k1, hb⟩ hT k2 hT2
      obtain ⟨d, hd, hf⟩ := FpL.at hx hi
      obtain ⟨e, he, rfl⟩ := map_some hd
      have hf1 := Fp.kp k1 _ _ hf
      rw [polBroken_drop he] at hb
      fail "go"
      · rw [if_pos hc] at hb
        rw [hb] at k
        exact k _ (by fail "kp")
      · rw [if_neg hc] at hb
        exact ⟨_, _, by rw [polRun_take he]; rfl, by fail "kp", by rw [polRun_take he]; exact hb⟩
    · rintro σ H1 ⟨z, z2, rfl, k1, hb⟩
      have e0 : polBroken rules 0 0 tr = none := by
        rw [hb, elx, List.drop_length]
        rfl
      rw [e0] at k
      fail "go"
      exact k _ (by fail "kp")
end
set_option hygiene false in
local macro_rules | `(tactic| fail "cl") => `(tactic| with_reducible first
  | exact T.cls_Policy)
set_option hygiene false in
local macro_rules | `(tactic| fail "na") => `(tactic| with_reducible first
  | exact T.noat_Policy_rules)
set_option hygiene false in
local macro_rules | `(tactic| fail "sp") => `(tactic| first
  | ((with_reducible apply SpI_Policy_after.mk); (first | (case ha => fail "sd") | skip); (first | (case he => fail "sd") | skip); (case' k => intro H' g1)))
section
variable {P : Program} {w : World} {K : PySem.W.Frag} {mg : Str → Option Value} {base : Heap}

inductive SpI_state_after (K : PySem.W.Frag) (H : Hp) (Q : VK) (E : XK) : List V → Prop
  | mk (a l : Addr) (rules : List Rule) (tr : List Ev) (xs : List V) (ha : PolicyAt K H a rules) (hl : H l = some (.lst xs) ∨ SqF K H l xs) (hx : FpL K H (tr.map encEv) xs) (k : ∀ H', Kp [] H H' → Q (.int (polRun rules 0 tr)) H') : SpI_state_after K H Q E [.ref a, .ref l]
abbrev Sp_state_after (K : PySem.W.Frag) : Sp := fun vs H Q E => SpI_state_after K H Q E vs
theorem sc_state_after : FnScope ["policy", "trace", "state", "event"] ["policy", "trace"] (defScope s_state_after) := ⟨rfl, rfl, rfl, by decide +kernel, rfl, by decide +kernel, by decide +kernel⟩
theorem ok_state_after (T : Tx K mg) : Cal P w K mg base CX0 2 (ga K "state_after") ["policy", "trace"] (Sp_state_after K) := by
  have C_Policy_after := ok_Policy_after (P := P) (w := w) (base := base) T
  obtain ⟨fd, F⟩ := T.c.def_ 2 rfl
  refine Cal.of (k := 1) F (F.bindsN fun _ _ _ _ _ _ us hl => match us, hl with | [_, _], _ => rfl) sc_state_after (fun vs H Q E h => by cases h; rfl) (fun cdv A outer s H vs Q E hRm h => ?_)
  have sc := sc_state_after
  have hu64 := hRm.units
  cases h with | mk a l rules tr xs ha hl hx k =>
    refine ⟨_, pss_cons (ps_set (i := 2) sc.nd rfl (Or.inl rfl) pe_int) (pss_cons (ps_for PassesOwn.never rfl (k_il K (pv 1)) (pg_name (i := 3) sc.nd rfl (Or.inl rfl)) (pss_one (ps_set (i := 2) sc.nd rfl (Or.inl rfl) (pc_meth (pv 0) T.cls_Policy T.meth_Policy_after C_Policy_after (hRm.mono (by decide)) (pa_cons (pv 2) (pa_cons (pv 3) pa_nil)))))) (pss_one (ps_ret (pv 2)))), ?_⟩
    refine g_start (σ := [some (.ref a), some (.ref l), none, none]) rfl ?_
    obtain ⟨dx, t, ys, hp, ht, hy⟩ := id ha
    have elx := FpL.len hx
    rw [List.length_map] at elx
    have hS : ∀ H', Kp [] H H' → SqL K H' l xs := fun H' k1 => hl.elim (fun z => by fail "lk") (fun z => by fail "lk")
    fail "go"
    refine g_forL (hS H (Kp.refl _ _)) (fun i σ H' => ∃ z, σ = [some (.ref a), some (.ref l), some (.int (polRun rules 0 (tr.take i))), z] ∧ Kp [] H H') ⟨_, rfl, by fail "kp"⟩ ?_ ?_ ?_
    · rintro i σ H1 hi ⟨z, rfl, k1⟩
      exact hS _ k1
    · rintro i x σ H1 hi ⟨z, rfl, k1⟩
      obtain ⟨d, hd, hf⟩ := FpL.at hx hi
      obtain ⟨e, he, rfl⟩ := map_some hd
      have hf1 := Fp.kp k1 _ _ hf
      fail "go"
      exact ⟨_, by rw [polRun_take he]; rfl, by fail "kp"⟩
    · rintro σ H1 ⟨z, rfl, k1⟩
      fail "go"
      exact q_int (k _ (by fail "kp")) (by rw [elx, List.take_length])
end
set_option hygiene false in
local macro_rules | `(tactic| fail "cl") => `(tactic| with_reducible first
  | exact T.cls_Policy)
set_option hygiene false in
local macro_rules | `(tactic| fail "na") => `(tactic| with_reducible first
  | exact T.noat_Policy_rules)
set_option hygiene false in
local macro_rules | `(tactic| fail "sp") => `(tactic| first
  | fail "none")
section
variable {P : Program} {w : World} {K : PySem.W.Frag} {mg : Str → Option Value} {base : Heap}

inductive SpI_law_next (K : PySem.W.Frag) (H : Hp) (Q : VK) (E : XK) : List V → Prop
  | mk (rl : Addr) (rules : List Rule) (st : Int) (e : Ev) (v : V) (rx : List V) (hl : H rl = some (.lst rx) ∨ SqF K H rl rx) (hx : FpL K H (rules.map encRule) rx) (he : Fp K H (encEv e) v) (hk : ∀ r ∈ rules, r.kind = "call" ∨ r.kind = "return" ∨ r.kind = "end") (k : ∀ H', Kp [] H H' → Q (.int (polAfter rules st e)) H') : SpI_law_next K H Q E [.ref rl, .int st, v]
abbrev Sp_law_next (K : PySem.W.Frag) : Sp := fun vs H Q E => SpI_law_next K H Q E vs
theorem sc_law_next : FnScope ["_law_rules", "_law_state", "_law_event", "_law_maker", "_law_rule"] ["_law_rules", "_law_state", "_law_event"] (defScope s_law_next) := ⟨rfl, rfl, rfl, by decide +kernel, rfl, by decide +kernel, by decide +kernel⟩
theorem ok_law_next (T : Tx K mg) : Cal P w K mg base CX0 1 (ga K "_law_next") ["_law_rules", "_law_state", "_law_event"] (Sp_law_next K) := by

  obtain ⟨fd, F⟩ := T.c.def_ 12 rfl
  refine Cal.of (k := 0) F (F.bindsN fun _ _ _ _ _ _ us hl => match us, hl with | [_, _, _], _ => rfl) sc_law_next (fun vs H Q E h => by cases h; rfl) (fun cdv A outer s H vs Q E hRm h => ?_)
  have sc := sc_law_next
  have hu64 := hRm.units
  cases h with | mk rl rules st e v rx hl hx he hk k =>
    refine ⟨_, pss_cons (ps_set (i := 3) sc.nd rfl (Or.inl rfl) pe_int) (pss_cons (ps_if (pt_cmpR (k_ne K hu64) (k_ix K (pv 2) pe_int) pe_str (nomark _)) (pss_one (ps_set (i := 3) sc.nd rfl (Or.inl rfl) (k_ix K (pv 2) pe_int))) pss_nil) (pss_cons (ps_for PassesOwn.never rfl (k_il K (pv 0)) (pg_name (i := 4) sc.nd rfl (Or.inl rfl)) (pss_one (ps_if ((pw_and (pt_cmpR (k_ne K hu64) (pv 1) (pe_un un_neg pe_int) (nomark _)) (pw_and1 (pt_cmpR (k_eq K hu64) (pe_slice (k_sl K) (pv 4) po_none (po_some pe_int)) (pe_tup (pa_cons (pv 1) (pa_cons (k_ix K (pv 2) pe_int) (pa_cons (pv 3) pa_nil)))) (nomark _)))).pt) (pss_one (ps_ret (k_ix K (pv 4) pe_int))) pss_nil))) (pss_one (ps_ret (pv 1))))), ?_⟩
    refine g_start (σ := [some (.ref rl), some (.int st), some (v), none, none]) rfl ?_
    obtain ⟨b, rfl, hb⟩ := he.evE
    have elx := FpL.len hx
    rw [List.length_map] at elx
    have hS : ∀ H', Kp [] H H' → SqL K H' rl rx := fun H' k1 => hl.elim (fun z => by fail "lk") (fun z => by fail "lk")
    cases e with
    | call f t1 p1 w =>
      simp only [evVals] at hb
      fail "go"
      refine g_forL (hS _ (by fail "kp")) (fun i σ H' => ∃ z, σ = [some (.ref rl), some (.int st), some (.ref b), some (.int f), z] ∧ Kp [] H H' ∧ (st = -1 ∨ ∀ j r, j < i → rules[j]? = some r → r.fits st (.call f t1 p1 w) = false)) ⟨_, rfl, by fail "kp", .inr fun j r hj => absurd hj (Nat.not_lt_zero _)⟩ ?_ ?_ ?_
      · rintro i σ H1 hi ⟨z, rfl, k1, hn⟩
        exact hS _ k1
      · rintro i x σ H1 hi ⟨z, rfl, k1, hn⟩
        obtain ⟨d, hd, hf⟩ := FpL.at hx hi
        obtain ⟨r, hr, rfl⟩ := map_some hd
        have hkr := hk r (List.mem_of_getElem? hr)
        obtain ⟨ra, rfl, hra⟩ := hf.ruleE
        fail "go"
        · refine uEq_same (d := .tuple [.int r.s, .str r.kind, .int r.c]) (e := .tuple [.int st, .str "call", .int f]) (Fp.tup (by fail "lk") (FpL.cons (Fp.i _) (FpL.cons (Fp.s _) (FpL.cons (Fp.i _) FpL.nil)))) (Fp.tup (by fail "lk") (FpL.cons (Fp.i _) (FpL.cons (Fp.s _) (FpL.cons (Fp.i _) FpL.nil)))) (by rcases hkr with h | h | h <;> rw [h] <;> kernel_rfl) (by kernel_rfl) (by rfl) (by rfl) ?_
          have ef : dsame (.tuple [.int r.s, .str r.kind, .int r.c]) (.tuple [.int st, .str "call", .int f]) = r.fits st (.call f t1 p1 w) := by
            simp only [dsame, dsameL, Rule.fits, Ev.kind, Ev.by', Bool.and_true]
            try rfl
          rw [ef]
          fail "go"
          · refine q_int (k _ (by fail "kp")) ?_
            unfold polAfter
            rw [if_neg (by assumption), find_at hr hc fun j y hj hy => (hn.resolve_left (by assumption)) j y hj hy]
          · refine ⟨_, rfl, by fail "kp", .inr fun j y hj hy => ?_⟩
            by_cases hj2 : j < i
            · exact (hn.resolve_left (by assumption)) j y hj2 hy
            · have ej : j = i := by omega
              subst ej
              rw [hr] at hy
              cases hy
              exact hc
        · exact ⟨_, rfl, by fail "kp", .inl (by omega)⟩
      · rintro σ H1 ⟨z, rfl, k1, hn⟩
        fail "go"
        refine q_int (k _ (by fail "kp")) ?_
        unfold polAfter
        by_cases hs : st = -1
        · rw [if_pos hs]; exact hs
        · rw [if_neg hs, find_no fun j y hy => (hn.resolve_left hs) j y (by have := (List.getElem?_eq_some_iff.mp hy).1; omega) hy]
    | ret f t1 w =>
      simp only [evVals] at hb
      fail "go"
      refine g_forL (hS _ (by fail "kp")) (fun i σ H' => ∃ z, σ = [some (.ref rl), some (.int st), some (.ref b), some (.int f), z] ∧ Kp [] H H' ∧ (st = -1 ∨ ∀ j r, j < i → rules[j]? = some r → r.fits st (.ret f t1 w) = false)) ⟨_, rfl, by fail "kp", .inr fun j r hj => absurd hj (Nat.not_lt_zero _)⟩ ?_ ?_ ?_
      · rintro i σ H1 hi ⟨z, rfl, k1, hn⟩
        exact hS _ k1
      · rintro i x σ H1 hi ⟨z, rfl, k1, hn⟩
        obtain ⟨d, hd, hf⟩ := FpL.at hx hi
        obtain ⟨r, hr, rfl⟩ := map_some hd
        have hkr := hk r (List.mem_of_getElem? hr)
        obtain ⟨ra, rfl, hra⟩ := hf.ruleE
        fail "go"
        · refine uEq_same (d := .tuple [.int r.s, .str r.kind, .int r.c]) (e := .tuple [.int st, .str "return", .int f]) (Fp.tup (by fail "lk") (FpL.cons (Fp.i _) (FpL.cons (Fp.s _) (FpL.cons (Fp.i _) FpL.nil)))) (Fp.tup (by fail "lk") (FpL.cons (Fp.i _) (FpL.cons (Fp.s _) (FpL.cons (Fp.i _) FpL.nil)))) (by rcases hkr with h | h | h <;> rw [h] <;> kernel_rfl) (by kernel_rfl) (by rfl) (by rfl) ?_
          have ef : dsame (.tuple [.int r.s, .str r.kind, .int r.c]) (.tuple [.int st, .str "return", .int f]) = r.fits st (.ret f t1 w) := by
            simp only [dsame, dsameL, Rule.fits, Ev.kind, Ev.by', Bool.and_true]
            try rfl
          rw [ef]
          fail "go"
          · refine q_int (k _ (by fail "kp")) ?_
            unfold polAfter
            rw [if_neg (by assumption), find_at hr hc fun j y hj hy => (hn.resolve_left (by assumption)) j y hj hy]
          · refine ⟨_, rfl, by fail "kp", .inr fun j y hj hy => ?_⟩
            by_cases hj2 : j < i
            · exact (hn.resolve_left (by assumption)) j y hj2 hy
            · have ej : j = i := by omega
              subst ej
              rw [hr] at hy
              cases hy
              exact hc
        · exact ⟨_, rfl, by fail "kp", .inl (by omega)⟩
      · rintro σ H1 ⟨z, rfl, k1, hn⟩
        fail "go"
        refine q_int (k _ (by fail "kp")) ?_
        unfold polAfter
        by_cases hs : st = -1
        · rw [if_pos hs]; exact hs
        · rw [if_neg hs, find_no fun j y hy => (hn.resolve_left hs) j y (by have := (List.getElem?_eq_some_iff.mp hy).1; omega) hy]
    | fin w =>
      simp only [evVals] at hb
      fail "go"
      refine g_forL (hS _ (by fail "kp")) (fun i σ H' => ∃ z, σ = [some (.ref rl), some (.int st), some (.ref b), some (.int 0), z] ∧ Kp [] H H' ∧ (st = -1 ∨ ∀ j r, j < i → rules[j]? = some r → r.fits st (.fin w) = false)) ⟨_, rfl, by fail "kp", .inr fun j r hj => absurd hj (Nat.not_lt_zero _)⟩ ?_ ?_ ?_
      · rintro i σ H1 hi ⟨z, rfl, k1, hn⟩
        exact hS _ k1
      · rintro i x σ H1 hi ⟨z, rfl, k1, hn⟩
        obtain ⟨d, hd, hf⟩ := FpL.at hx hi
        obtain ⟨r, hr, rfl⟩ := map_some hd
        have hkr := hk r (List.mem_of_getElem? hr)
        obtain ⟨ra, rfl, hra⟩ := hf.ruleE
        fail "go"
        · refine uEq_same (d := .tuple [.int r.s, .str r.kind, .int r.c]) (e := .tuple [.int st, .str "end", .int 0]) (Fp.tup (by fail "lk") (FpL.cons (Fp.i _) (FpL.cons (Fp.s _) (FpL.cons (Fp.i _) FpL.nil)))) (Fp.tup (by fail "lk") (FpL.cons (Fp.i _) (FpL.cons (Fp.s _) (FpL.cons (Fp.i _) FpL.nil)))) (by rcases hkr with h | h | h <;> rw [h] <;> kernel_rfl) (by kernel_rfl) (by rfl) (by rfl) ?_
          have ef : dsame (.tuple [.int r.s, .str r.kind, .int r.c]) (.tuple [.int st, .str "end", .int 0]) = r.fits st (.fin w) := by
            simp only [dsame, dsameL, Rule.fits, Ev.kind, Ev.by', Bool.and_true]
            try rfl
          rw [ef]
          fail "go"
          · refine q_int (k _ (by fail "kp")) ?_
            unfold polAfter
            rw [if_neg (by assumption), find_at hr hc fun j y hj hy => (hn.resolve_left (by assumption)) j y hj hy]
          · refine ⟨_, rfl, by fail "kp", .inr fun j y hj hy => ?_⟩
            by_cases hj2 : j < i
            · exact (hn.resolve_left (by assumption)) j y hj2 hy
            · have ej : j = i := by omega
              subst ej
              rw [hr] at hy
              cases hy
              exact hc
        · exact ⟨_, rfl, by fail "kp", .inl (by omega)⟩
      · rintro σ H1 ⟨z, rfl, k1, hn⟩
        fail "go"
        refine q_int (k _ (by fail "kp")) ?_
        unfold polAfter
        by_cases hs : st = -1
        · rw [if_pos hs]; exact hs
        · rw [if_neg hs, find_no fun j y hy => (hn.resolve_left hs) j y (by have := (List.getElem?_eq_some_iff.mp hy).1; omega) hy]
end
set_option hygiene false in
local macro_rules | `(tactic| fail "cl") => `(tactic| with_reducible first
  | exact T.cls_Policy)
set_option hygiene false in
local macro_rules | `(tactic| fail "na") => `(tactic| with_reducible first
  | exact T.noat_Policy_rules)
set_option hygiene false in
local macro_rules | `(tactic| fail "sp") => `(tactic| first
  | fail "none")
section
variable {P : Program} {w : World} {K : PySem.W.Frag} {mg : Str → Option Value} {base : Heap}

inductive SpI_Policy_ini (K : PySem.W.Frag) (H : Hp) (Q : VK) (E : XK) : List V → Prop
  | mk (a dx l : Addr) (rules : List Rule) (xs : List V) (ha : H a = some (.ins (He.ga K "Policy") dx [])) (hl : SqL K H l xs) (hx : FpL K H (rules.map encRule) xs) (k : ∀ H', PolicyAt K H' a rules → Kp [a] H H' → Q .non H') : SpI_Policy_ini K H Q E [.ref a, .ref l]
abbrev Sp_Policy_ini (K : PySem.W.Frag) : Sp := fun vs H Q E => SpI_Policy_ini K H Q E vs
theorem sc_Policy_ini : FnScope ["self", "rules"] ["self", "rules"] (defScope s_Policy_ini) := ⟨rfl, rfl, rfl, by decide +kernel, rfl, by decide +kernel, by decide +kernel⟩
theorem ok_Policy_ini (T : Tx K mg) : Cal P w K mg base CX0 1 (ma K (ga K "Policy") "__init__") ["self", "rules"] (Sp_Policy_ini K) := by

  obtain ⟨fd, F⟩ := T.c.def_ 0 rfl
  refine Cal.of (k := 0) F (F.bindsN fun _ _ _ _ _ _ us hl => match us, hl with | [_, _], _ => rfl) sc_Policy_ini (fun vs H Q E h => by cases h; rfl) (fun cdv A outer s H vs Q E hRm h => ?_)
  have sc := sc_Policy_ini
  have hu64 := hRm.units
  cases h with | mk a dx l rules xs ha hl hx k =>
    refine ⟨_, pss_one (k_fst K (pv 0) (pe_callTy (k_tuple K) (by rfl) T.f_tuple (by decide +kernel) (pa_cons (pv 1) pa_nil))), ?_⟩
    refine g_start (σ := [some (.ref a), some (.ref l)]) rfl ?_
    fail "go"
    exact k _ ⟨dx, _, xs, xM, by fail "lk", by fail "lk"⟩ (by fail "kp")
end
set_option hygiene false in
local macro_rules | `(tactic| fail "cl") => `(tactic| with_reducible first
  | exact T.cls_Policy)
set_option hygiene false in
local macro_rules | `(tactic| fail "na") => `(tactic| with_reducible first
  | exact T.noat_Policy_rules)
set_option hygiene false in
local macro_rules | `(tactic| fail "sp") => `(tactic| first
  | fail "none")
section
variable {P : Program} {w : World} {K : PySem.W.Frag} {mg : Str → Option Value} {base : Heap}

inductive SpI_law_draw (K : PySem.W.Frag) (H : Hp) (Q : VK) (E : XK) : List V → Prop
  | mk (p : Addr) (n e : Int) (hp : PoolAt K H p e) (h0 : 0 < n) (h1 : n < 1073741824) (k : ∀ v H', 0 ≤ v → v < n → PoolAt K H' p e → Kp [p] H H' → Q (.int v) H') : SpI_law_draw K H Q E [.ref p, .int n]
abbrev Sp_law_draw (K : PySem.W.Frag) : Sp := fun vs H Q E => SpI_law_draw K H Q E vs
theorem sc_law_draw : FnScope ["_law_pool_here", "_law_size", "_law_cell", "_law_value"] ["_law_pool_here", "_law_size"] (defScope s_law_draw) := ⟨rfl, rfl, rfl, by decide +kernel, rfl, by decide +kernel, by decide +kernel⟩
theorem ok_law_draw (T : Tx K mg) : Cal P w K mg base CX0 1 (ga K "_law_draw") ["_law_pool_here", "_law_size"] (Sp_law_draw K) := by

  obtain ⟨fd, F⟩ := T.c.def_ 5 rfl
  refine Cal.of (k := 0) F (F.bindsN fun _ _ _ _ _ _ us hl => match us, hl with | [_, _], _ => rfl) sc_law_draw (fun vs H Q E h => by cases h; rfl) (fun cdv A outer s H vs Q E hRm h => ?_)
  have sc := sc_law_draw
  have hu64 := hRm.units
  cases h with | mk p n e hp h0 h1 k =>
    refine ⟨_, pss_cons (ps_if ((pw_and (pt_cmpR u_le (k_ix K (pv 0) pe_int) pe_int (nomark _)) (pw_and (pt_cmpR u_le (k_ix K (pv 0) pe_int) pe_int (nomark _)) (pw_and1 (pt_cmpR u_lt (k_ix K (pv 0) pe_int) (pe_callB (k_len K) (by rfl) T.f_len (by decide +kernel) (pa_cons (k_ix K (pv 0) pe_int) pa_nil)) (nomark _))))).pt) (pss_cons (ps_set (i := 2) sc.nd rfl (Or.inl rfl) (k_ix K (k_ix K (pv 0) pe_int) (k_ix K (pv 0) pe_int))) (pss_cons (ps_asg (pe_op (k_add K) (k_ix K (pv 0) pe_int) pe_int) (pg_sub (pv 0) pe_int set_list)) (pss_cons (ps_asg (pe_op u_mod (pe_callTy u_int (by rfl) T.f_int (by decide +kernel) (pa_cons (pe_op (k_add K) (pe_op (k_mul K) (k_ix K (pv 0) pe_int) pe_int) (pv 2)) pa_nil)) pe_int) (pg_sub (pv 0) pe_int set_list)) (pss_cons (ps_asg pe_int (pg_sub (pv 0) pe_int set_list)) (pss_one (ps_if (pt_cmpR u_ge (pv 2) (pe_op u_pow pe_int pe_int) (nomark _)) (pss_one (ps_asg (pv 2) (pg_sub (pv 0) pe_int set_list))) pss_nil)))))) pss_nil) (pss_cons (ps_if (pt_cmpR u_gt (k_ix K (pv 0) pe_int) pe_int (nomark _)) (pss_cons (ps_set (i := 3) sc.nd rfl (Or.inl rfl) (pe_op u_mod (pe_callTy u_int (by rfl) T.f_int (by decide +kernel) (pa_cons (k_ix K (pv 0) pe_int) pa_nil)) (pv 1))) (pss_cons (ps_asg (pe_op u_fdiv (k_ix K (pv 0) pe_int) (pv 1)) (pg_sub (pv 0) pe_int set_list)) (pss_cons (ps_asg pe_int (pg_sub (pv 0) pe_int set_list)) (pss_one (ps_ret (pv 3)))))) pss_nil) (pss_cons (ps_asg (pe_op u_sub (k_ix K (pv 0) pe_int) pe_int) (pg_sub (pv 0) pe_int set_list)) (pss_cons (ps_asg (pe_op u_mod (pe_callTy u_int (by rfl) T.f_int (by decide +kernel) (pa_cons (pe_op (k_add K) (pe_op (k_mul K) (k_ix K (pv 0) pe_int) pe_int) pe_int) pa_nil)) pe_int) (pg_sub (pv 0) pe_int set_list)) (pss_one (ps_ret (pe_op u_mod (pe_op u_mod (pe_callTy u_int (by rfl) T.f_int (by decide +kernel) (pa_cons (pe_op (k_add K) (pe_op (k_mul K) (k_ix K (pv 0) pe_int) pe_int) pe_int) pa_nil)) pe_int) (pv 1))))))), ?_⟩
    refine g_start (σ := [some (.ref p), some (.int n), none, none]) rfl ?_
    obtain ⟨l, ns, a, b, c, d, hl, hs, hn, ha, hc0, hc1⟩ := hp
    fail "go"
    · refine uIx_LI (SqF.l hs) ha (by omega) fun x hx => ?_
      fail "go"
      all_goals exact k _ _ (Int.emod_nonneg _ (by omega)) (Int.emod_lt_of_pos _ h0) ⟨l, ns, _, _, _, _, ‹_›, by fail "lk", hn, by omega, by omega, by omega⟩ (by fail "kp")
    all_goals exact k _ _ (Int.emod_nonneg _ (by omega)) (Int.emod_lt_of_pos _ h0) ⟨l, ns, _, _, _, _, ‹_›, by fail "lk", hn, by omega, by omega, by omega⟩ (by fail "kp")
end
set_option hygiene false in
local macro_rules | `(tactic| fail "cl") => `(tactic| with_reducible first
  | exact T.cls_Policy)
set_option hygiene false in
local macro_rules | `(tactic| fail "na") => `(tactic| with_reducible first
  | exact T.noat_Policy_rules)
set_option hygiene false in
local macro_rules | `(tactic| fail "sp") => `(tactic| first
  | ((with_reducible apply SpI_law_draw.mk); (first | (case hp => fail "sd") | skip); (first | (case h0 => fail "sd") | skip); (first | (case h1 => fail "sd") | skip); (case' k => intro v H' g1 g2 g3 g4)))
section
variable {P : Program} {w : World} {K : PySem.W.Frag} {mg : Str → Option Value} {base : Heap}

inductive SpI_law_number (K : PySem.W.Frag) (H : Hp) (Q : VK) (E : XK) : List V → Prop
  | mk (p : Addr) (e : Int) (hp : PoolAt K H p e) (k : ∀ v H', Wd v → PoolAt K H' p e → Kp [p] H H' → Q (.int v) H') : SpI_law_number K H Q E [.ref p]
abbrev Sp_law_number (K : PySem.W.Frag) : Sp := fun vs H Q E => SpI_law_number K H Q E vs
theorem sc_law_number : FnScope ["_law_pool_here"] ["_law_pool_here"] (defScope s_law_number) := ⟨rfl, rfl, rfl, by decide +kernel, rfl, by decide +kernel, by decide +kernel⟩
theorem ok_law_number (T : Tx K mg) : Cal P w K mg base CX0 2 (ga K "_law_number") ["_law_pool_here"] (Sp_law_number K) := by
  have C_law_draw := ok_law_draw (P := P) (w := w) (base := base) T
  obtain ⟨fd, F⟩ := T.c.def_ 8 rfl
  refine Cal.of (k := 1) F (F.bindsN fun _ _ _ _ _ _ us hl => match us, hl with | [_], _ => rfl) sc_law_number (fun vs H Q E h => by cases h; rfl) (fun cdv A outer s H vs Q E hRm h => ?_)
  have sc := sc_law_number
  have hu64 := hRm.units
  cases h with | mk p e hp k =>
    refine ⟨_, pss_cons (ps_if (pt_cmpR (k_eq K hu64) (pc_call C_law_draw (hRm.mono (by decide)) (by rfl) T.g__law_draw (pa_cons (pv 0) (pa_cons pe_int pa_nil))) pe_int (nomark _)) (pss_one (ps_ret (pc_call C_law_draw (hRm.mono (by decide)) (by rfl) T.g__law_draw (pa_cons (pv 0) (pa_cons pe_int pa_nil))))) pss_nil) (pss_one (ps_ret (pc_call C_law_draw (hRm.mono (by decide)) (by rfl) T.g__law_draw (pa_cons (pv 0) (pa_cons pe_int pa_nil))))), ?_⟩
    refine g_start (σ := [some (.ref p)]) rfl ?_
    fail "go"
    all_goals exact k _ _ ⟨by omega, by omega⟩ (by fail "lk") (by fail "kp")
end
set_option hygiene false in
local macro_rules | `(tactic| fail "cl") => `(tactic| with_reducible first
  | exact T.cls_Policy)
set_option hygiene false in
local macro_rules | `(tactic| fail "na") => `(tactic| with_reducible first
  | exact T.noat_Policy_rules)
set_option hygiene false in
local macro_rules | `(tactic| fail "sp") => `(tactic| first
  | ((with_reducible apply SpI_law_draw.mk); (first | (case hp => fail "sd") | skip); (first | (case h0 => fail "sd") | skip); (first | (case h1 => fail "sd") | skip); (case' k => intro v H' g1 g2 g3 g4))
  | ((with_reducible apply SpI_law_number.mk); (first | (case hp => fail "sd") | skip); (case' k => intro v H' g1 g2 g3)))
section
variable {P : Program} {w : World} {K : PySem.W.Frag} {mg : Str → Option Value} {base : Heap}

inductive SpI_law_drawn (K : PySem.W.Frag) (H : Hp) (Q : VK) (E : XK) : List V → Prop
  | mk (p : Addr) (rv : V) (rs : List IRow) (m e mr : Int) (hp : PoolAt K H p e) (hr : Fp K H (encRows rs) rv) (ho : RowsOk mr rs) (h0 : 0 ≤ m) (h1 : m < 1000) (k : ∀ v H' tr st, PoolAt K H' p e → Kp [p] H H' → evRun rs (some 0, []) tr = some st → (tr.length : Int) ≤ m → (∀ x ∈ tr, Wd x.word) → Fp K H' (.list (tr.map encEv)) v → Q v H') : SpI_law_drawn K H Q E [.ref p, rv, .int m]
abbrev Sp_law_drawn (K : PySem.W.Frag) : Sp := fun vs H Q E => SpI_law_drawn K H Q E vs
theorem sc_law_drawn : FnScope ["_law_pool_here", "_law_rows_here", "_law_most", "_law_trace", "_law_current", "_law_waiting", "_law_k", "_law_imports", "_law_target"] ["_law_pool_here", "_law_rows_here", "_law_most"] (defScope s_law_drawn) := ⟨rfl, rfl, rfl, by decide +kernel, rfl, by decide +kernel, by decide +kernel⟩
theorem ok_law_drawn (T : Tx K mg) : Cal P w K mg base CX0 3 (ga K "_law_drawn") ["_law_pool_here", "_law_rows_here", "_law_most"] (Sp_law_drawn K) := by
  have C_law_draw := ok_law_draw (P := P) (w := w) (base := base) T
  have C_law_number := ok_law_number (P := P) (w := w) (base := base) T
  obtain ⟨fd, F⟩ := T.c.def_ 11 rfl
  refine Cal.of (k := 2) F (F.bindsN fun _ _ _ _ _ _ us hl => match us, hl with | [_, _, _], _ => rfl) sc_law_drawn (fun vs H Q E h => by cases h; rfl) (fun cdv A outer s H vs Q E hRm h => ?_)
  have sc := sc_law_drawn
  have hu64 := hRm.units
  cases h with | mk p rv rs m e mr hp hr ho h0 h1 k =>
    refine ⟨_, pss_cons (ps_set (i := 3) sc.nd rfl (Or.inl rfl) (pe_lst pa_nil)) (pss_cons (ps_set (i := 4) sc.nd rfl (Or.inl rfl) pe_int) (pss_cons (ps_set (i := 5) sc.nd rfl (Or.inl rfl) (pe_lst pa_nil)) (pss_cons (ps_for PassesOwn.never rfl (pi_range1 (by rfl) T.f_range (pa_cons (pc_call C_law_draw (hRm.mono (by decide)) (by rfl) T.g__law_draw (pa_cons (pv 0) (pa_cons (pe_op (k_add K) (pv 2) pe_int) pa_nil))) pa_nil)) (pg_name (i := 6) sc.nd rfl (Or.inl rfl)) (pss_cons (ps_set (i := 7) sc.nd rfl (Or.inl rfl) (k_ix K (k_ix K (pv 1) (pv 4)) pe_int)) (pss_one (ps_if ((pw_and (k_tr K (pv 7)) (pw_and1 (pt_cmpR u_lt (pc_call C_law_draw (hRm.mono (by decide)) (by rfl) T.g__law_draw (pa_cons (pv 0) (pa_cons pe_int pa_nil))) pe_int (nomark _)))).pt) (pss_cons (ps_set (i := 8) sc.nd rfl (Or.inl rfl) (k_ix K (pv 7) (pc_call C_law_draw (hRm.mono (by decide)) (by rfl) T.g__law_draw (pa_cons (pv 0) (pa_cons (pe_callB (k_len K) (by rfl) T.f_len (by decide +kernel) (pa_cons (pv 7) pa_nil)) pa_nil))))) (pss_cons (ps_expr (k_append K (pv 3) (pa_cons (pe_tup (pa_cons pe_str (pa_cons (pv 4) (pa_cons (k_ix K (pv 8) pe_int) (pa_cons (k_ix K (pv 8) pe_int) (pa_cons (pc_call C_law_number (hRm.mono (by decide)) (by rfl) T.g__law_number (pa_cons (pv 0) pa_nil)) pa_nil)))))) pa_nil))) (pss_cons (ps_expr (k_append K (pv 5) (pa_cons (pv 4) pa_nil))) (pss_one (ps_set (i := 4) sc.nd rfl (Or.inl rfl) (k_ix K (pv 8) pe_int)))))) (pss_one (ps_if (k_tr K (pv 5)) (pss_cons (ps_expr (k_append K (pv 3) (pa_cons (pe_tup (pa_cons pe_str (pa_cons (pv 4) (pa_cons (k_ix K (pv 5) (pe_un un_neg pe_int)) (pa_cons (pc_call C_law_number (hRm.mono (by decide)) (by rfl) T.g__law_number (pa_cons (pv 0) pa_nil)) pa_nil))))) pa_nil))) (pss_one (ps_set (i := 4) sc.nd rfl (Or.inl rfl) (k_pop K (pv 5))))) (pss_one (ps_if (pt_cmpR (k_eq K hu64) (pc_call C_law_draw (hRm.mono (by decide)) (by rfl) T.g__law_draw (pa_cons (pv 0) (pa_cons pe_int pa_nil))) pe_int (nomark _)) (pss_one (ps_ret (pe_frz (pe_op (k_add K) (pv 3) (pe_lst (pa_cons (pe_tup (pa_cons pe_str (pa_cons (pc_call C_law_number (hRm.mono (by decide)) (by rfl) T.g__law_number (pa_cons (pv 0) pa_nil)) pa_nil))) pa_nil)))))) pss_nil)))))))) (pss_one (ps_ret (pe_frz (pv 3))))))), ?_⟩
    refine g_start (σ := [some (.ref p), some (rv), some (.int m), none, none, none, none, none, none]) rfl ?_
    obtain ⟨ra, rx, rfl, hra, hrx⟩ := hr.lstE
    have elr := FpL.len hrx
    rw [List.length_map] at elr
    have hlen0 := ho.len0
    fail "go"
    rename_i TA HTA hTA kTA xTA
    obtain ⟨WA, eW⟩ : ∃ z, z = pN := ⟨_, rfl⟩
    subst eW
    refine g_forR (by omega) (fun i σ H1 => ∃ zk z7 z8 c ws tr xs, σ = [some (.ref p), some (.ref ra), some (.int m), some (.ref TA), some (.int c), some (.ref WA), zk, z7, z8] ∧ PoolAt K H1 p e ∧ H1 TA = some (.lst xs) ∧ FpL K H1 (tr.map encEv) xs ∧ H1 WA = some (.lst (ws.reverse.map V.int)) ∧ evRun rs (some 0, []) tr = some (some c, ws) ∧ 0 ≤ c ∧ c < rs.length ∧ tr.length ≤ i ∧ ws.length ≤ i ∧ (∀ x ∈ tr, Wd x.word) ∧ (∀ x ∈ ws, 0 ≤ x ∧ x < rs.length) ∧ Kp [p, TA, WA] H' H1) ⟨_, _, _, 0, [], [], [], rfl, by fail "lk", by fail "lk", FpL.nil, (by show H' WA = some (.lst []); fail "lk"), rfl, by omega, by omega, by decide, by decide, fun _ h => (List.not_mem_nil h).elim, fun _ h => (List.not_mem_nil h).elim, Kp.refl _ _⟩ ?_ ?_
    · rintro i σ H1 hi ⟨zk, z7, z8, c, ws, tr, xs, rfl, hp1, hT1, hf1, hW1, hr1, hc0, hc1, hl1, hl2, hw1, hws, k1⟩
      have elt := FpL.len hf1
      rw [List.length_map] at elt
      fail "go"
      refine uIx_LD (ds := rs.map encRow) (by fail "lk") (by fail "lk") hc0 (by simp only [List.length_map]; omega) fun v1 d1 e1 f1 => ?_
      obtain ⟨r, er, rfl⟩ : ∃ r, rs[c.toNat]? = some r ∧ encRow r = d1 := by
        rw [List.getElem?_map] at e1
        cases q : rs[c.toNat]? with
        | none => rw [q] at e1; cases e1
        | some r => rw [q] at e1; exact ⟨r, rfl, by simpa using e1⟩
      obtain ⟨a1, b1, is, rfl, ha1, hb1, hi1⟩ := f1.rowE
      have eli := FpL.len hi1
      rw [List.length_map] at eli
      have hr5 := (ho.row _ _ er).len
      fail "go"
      · refine uIx_LD (ds := r.2.map encP) (by fail "lk") (by fail "lk") (by omega) (by simp only [List.length_map]; omega) fun v2 d2 e2 f2 => ?_
        obtain ⟨q, eq, rfl⟩ := map_some e2
        obtain ⟨a2, rfl, ha2⟩ := f2.pE
        have hq := List.mem_of_getElem? eq
        have hqo := ho.imp er hq
        fail "go"
        refine ⟨_, _, _, q.1, c :: ws, tr ++ [.call c q.1 q.2 v], _, rfl, by fail "lk", by fail "lk", ?_, ?_, (evRun_snoc hr1).trans (evStep_call (by rw [impsOf_eq hc0 er]; exact hq)), hqo.1, hqo.2.1, by simp; omega, by simp; omega, wd_snoc hw1 (by assumption), ?_, by fail "kp"⟩
        · rw [List.map_append]
          exact FpL.snoc (by fail "lk") (Fp.callI (by fail "lk"))
        · simp only [List.reverse_cons, List.map_append, List.map_cons, List.map_nil]
          fail "lk"
        · intro y hy
          rcases List.mem_cons.mp hy with z | z
          · rw [z]; omega
          · exact hws y z
      · cases ws with
        | nil => simp at hc
        | cons x ws =>
          simp only [List.reverse_cons, List.map_append, List.map_cons, List.map_nil] at hW1
          have hx := hws x List.mem_cons_self
          fail "go"
          refine ⟨_, _, _, x, ws, tr ++ [.ret c x v], _, rfl, by fail "lk", by fail "lk", ?_, by fail "lk", (evRun_snoc hr1).trans evStep_ret, hx.1, hx.2, by simp; omega, by simp at hl2; omega, wd_snoc hw1 (by assumption), fun y hy => hws y (List.mem_cons_of_mem _ hy), by fail "kp"⟩
          rw [List.map_append]
          exact FpL.snoc (by fail "lk") (Fp.retI (by fail "lk"))
      · have hnw : ¬ 0 < (List.map V.int ws.reverse).length := by assumption
        have e0 : ws = [] := by cases ws with
          | nil => rfl
          | cons x ws => simp at hnw
        subst e0
        refine g_frzYes (K := K) hxN fun H6 k6 h6 => ?_
        refine k _ _ (tr ++ [.fin v]) _ (by fail "lk") (by fail "kp") ((evRun_snoc hr1).trans evStep_fin) (by simp; omega) (wd_snoc hw1 (by assumption)) (Fp.lst h6 ?_)
        rw [List.map_append]
        exact FpL.snoc (by fail "lk") (Fp.finI (by fail "lk"))
      · exact ⟨_, _, _, c, ws, tr, _, rfl, by fail "lk", by fail "lk", by fail "lk", by fail "lk", hr1, hc0, hc1, by omega, by omega, hw1, hws, by fail "kp"⟩
      · cases ws with
        | nil => simp at hc
        | cons x ws =>
          simp only [List.reverse_cons, List.map_append, List.map_cons, List.map_nil] at hW1
          have hx := hws x List.mem_cons_self
          fail "go"
          refine ⟨_, _, _, x, ws, tr ++ [.ret c x v], _, rfl, by fail "lk", by fail "lk", ?_, by fail "lk", (evRun_snoc hr1).trans evStep_ret, hx.1, hx.2, by simp; omega, by simp at hl2; omega, wd_snoc hw1 (by assumption), fun y hy => hws y (List.mem_cons_of_mem _ hy), by fail "kp"⟩
          rw [List.map_append]
          exact FpL.snoc (by fail "lk") (Fp.retI (by fail "lk"))
      · have hnw : ¬ 0 < (List.map V.int ws.reverse).length := by assumption
        have e0 : ws = [] := by cases ws with
          | nil => rfl
          | cons x ws => simp at hnw
        subst e0
        refine g_frzYes (K := K) hxN fun H6 k6 h6 => ?_
        refine k _ _ (tr ++ [.fin v]) _ (by fail "lk") (by fail "kp") ((evRun_snoc hr1).trans evStep_fin) (by simp; omega) (wd_snoc hw1 (by assumption)) (Fp.lst h6 ?_)
        rw [List.map_append]
        exact FpL.snoc (by fail "lk") (Fp.finI (by fail "lk"))
      · exact ⟨_, _, _, c, ws, tr, _, rfl, by fail "lk", by fail "lk", by fail "lk", by fail "lk", hr1, hc0, hc1, by omega, by omega, hw1, hws, by fail "kp"⟩
    · rintro σ H1 ⟨zk, z7, z8, c, ws, tr, xs, rfl, hp1, hT1, hf1, hW1, hr1, hc0, hc1, hl1, hl2, hw1, hws, k1⟩
      fail "go"
      refine g_frzYes (K := K) hT1 fun H6 k6 h6 => ?_
      exact k _ _ tr _ (by fail "lk") (by fail "kp") hr1 (by omega) hw1 (Fp.lst h6 (by fail "lk"))
end
set_option hygiene false in
local macro_rules | `(tactic| fail "cl") => `(tactic| with_reducible first
  | exact T.cls_Policy)
set_option hygiene false in
local macro_rules | `(tactic| fail "na") => `(tactic| with_reducible first
  | exact T.noat_Policy_rules)
set_option hygiene false in
local macro_rules | `(tactic| fail "sp") => `(tactic| first
  | ((with_reducible apply SpI_law_draw.mk); (first | (case hp => fail "sd") | skip); (first | (case h0 => fail "sd") | skip); (first | (case h1 => fail "sd") | skip); (case' k => intro v H' g1 g2 g3 g4)))
section
variable {P : Program} {w : World} {K : PySem.W.Frag} {mg : Str → Option Value} {base : Heap}

inductive SpI_law_rows (K : PySem.W.Frag) (H : Hp) (Q : VK) (E : XK) : List V → Prop
  | mk (p : Addr) (m e : Int) (hp : PoolAt K H p e) (h0 : 0 < m) (h1 : m < 1000) (k : ∀ v H' rs, PoolAt K H' p e → Kp [p] H H' → RowsOk m rs → Fp K H' (encRows rs) v → Q v H') : SpI_law_rows K H Q E [.ref p, .int m]
abbrev Sp_law_rows (K : PySem.W.Frag) : Sp := fun vs H Q E => SpI_law_rows K H Q E vs
theorem sc_law_rows : FnScope ["_law_pool_here", "_law_most", "_law_size", "_law_exports", "_law_k", "_law_rows_here", "_law_imports", "_law_other", "_law_procedure"] ["_law_pool_here", "_law_most"] (defScope s_law_rows) := ⟨rfl, rfl, rfl, by decide +kernel, rfl, by decide +kernel, by decide +kernel⟩
theorem ok_law_rows (T : Tx K mg) : Cal P w K mg base CX0 2 (ga K "_law_rows") ["_law_pool_here", "_law_most"] (Sp_law_rows K) := by
  have C_law_draw := ok_law_draw (P := P) (w := w) (base := base) T
  obtain ⟨fd, F⟩ := T.c.def_ 10 rfl
  refine Cal.of (k := 1) F (F.bindsN fun _ _ _ _ _ _ us hl => match us, hl with | [_, _], _ => rfl) sc_law_rows (fun vs H Q E h => by cases h; rfl) (fun cdv A outer s H vs Q E hRm h => ?_)
  have sc := sc_law_rows
  have hu64 := hRm.units
  cases h with | mk p m e hp h0 h1 k =>
    refine ⟨_, pss_cons (ps_set (i := 2) sc.nd rfl (Or.inl rfl) (pe_op (k_add K) pe_int (pc_call C_law_draw (hRm.mono (by decide)) (by rfl) T.g__law_draw (pa_cons (pv 0) (pa_cons (pv 1) pa_nil))))) (pss_cons (ps_setLc (i := 3) (own := [("_law_k", 4)]) (g := gName 4) (tt := tYes) rfl sc.nd rfl rfl (sw_true rfl rfl rfl (by decide +kernel)) (pi_range1 (by rfl) T.f_range (pa_cons (pv 2) pa_nil)) (blkOk_by (N := ["_law_pool_here", "_law_most", "_law_size", "_law_exports", "_law_k", "_law_rows_here", "_law_imports", "_law_other", "_law_procedure"]) (sc := defScope s_law_rows) (by decide +kernel)) (fun _ _ _ _ _ => pg_name (i := 4) sc.nd rfl (Or.inl rfl)) (fun _ _ _ _ _ => pts_nil) (fun _ _ _ _ _ => pe_op (k_add K) pe_int (pc_call C_law_draw (hRm.mono (by decide)) (by rfl) T.g__law_draw (pa_cons (pv 0) (pa_cons pe_int pa_nil))))) (pss_cons (ps_set (i := 5) sc.nd rfl (Or.inl rfl) (pe_lst pa_nil)) (pss_cons (ps_for PassesOwn.never rfl (pi_range1 (by rfl) T.f_range (pa_cons (pv 2) pa_nil)) (pg_name (i := 4) sc.nd rfl (Or.inl rfl)) (pss_cons (ps_set (i := 6) sc.nd rfl (Or.inl rfl) (pe_lst pa_nil)) (pss_cons (ps_for PassesOwn.never rfl (pi_range1 (by rfl) T.f_range (pa_cons (pv 2) pa_nil)) (pg_name (i := 7) sc.nd rfl (Or.inl rfl)) (pss_one (ps_for PassesOwn.never rfl (pi_range1 (by rfl) T.f_range (pa_cons (k_ix K (pv 3) (pv 7)) pa_nil)) (pg_name (i := 8) sc.nd rfl (Or.inl rfl)) (pss_one (ps_if ((pw_and (pt_cmpR (k_ne K hu64) (pv 7) (pv 4) (nomark _)) (pw_and (pt_cmpR u_gt (pc_call C_law_draw (hRm.mono (by decide)) (by rfl) T.g__law_draw (pa_cons (pv 0) (pa_cons pe_int pa_nil))) pe_int (nomark _)) (pw_and1 (pt_cmpR u_lt (pe_callB (k_len K) (by rfl) T.f_len (by decide +kernel) (pa_cons (pv 6) pa_nil)) pe_int (nomark _))))).pt) (pss_one (ps_expr (k_append K (pv 6) (pa_cons (pe_tup (pa_cons (pv 7) (pa_cons (pv 8) pa_nil))) pa_nil)))) pss_nil))))) (pss_cons (ps_if (pt_cmpR (k_eq K hu64) (pc_call C_law_draw (hRm.mono (by decide)) (by rfl) T.g__law_draw (pa_cons (pv 0) (pa_cons pe_int pa_nil))) pe_int (nomark _)) (pss_one (ps_set (i := 6) sc.nd rfl (Or.inl rfl) (k_rev K (pv 6)))) pss_nil) (pss_one (ps_expr (k_append K (pv 5) (pa_cons (pe_tup (pa_cons (k_ix K (pv 3) (pv 4)) (pa_cons (pe_frz (pv 6)) pa_nil))) pa_nil)))))))) (pss_one (ps_ret (pe_frz (pv 5))))))), ?_⟩
    refine g_start (σ := [some (.ref p), some (.int m), none, none, none, none, none, none, none]) rfl ?_
    fail "go"
    refine g_lcR (by omega) (fun D i H' => ∃ ex : List Int, H' D = some (.lst (ex.map V.int)) ∧ ex.length = i ∧ (∀ x ∈ ex, 1 ≤ x ∧ x ≤ 3) ∧ PoolAt K H' p e ∧ Kp [p] H H') ?_ ?_ ?_
    · intro D H2 hD k2 h2
      exact ⟨[], h2, rfl, fun _ h => (List.not_mem_nil h).elim, by fail "lk", by fail "kp"⟩
    · rintro D i H2 hD hi ⟨ex, hx, hl, ho, hp2, k2⟩
      fail "go"
      exact ⟨ex ++ [1 + v], by rw [List.map_append]; assumption, by simp [hl], fun x hx => by
        rcases List.mem_append.mp hx with z | z
        · exact ho x z
        · rw [List.mem_singleton.mp z]; omega, by fail "lk", by fail "kp"⟩
    · rintro D H2 hD ⟨ex, hx, hl, ho, hp2, k2⟩
      fail "go"
      revert pN HN hpN hkN hxN
      intro R HR hpR hkR hxR
      have eN : ex.length = (1 + v).toNat := hl
      refine g_forR (by omega) (fun i σ H3 => ∃ zk z6 z7 z8 xs rs, σ = [some (.ref p), some (.int m), some (.int (1 + v)), some (.ref D), zk, some (.ref R), z6, z7, z8] ∧ H3 D = some (.lst (ex.map V.int)) ∧ PoolAt K H3 p e ∧ H3 R = some (.lst xs) ∧ FpL K H3 (rs.map encRow) xs ∧ rs.length = i ∧ (∀ k r, rs[k]? = some r → RowOk ex k r) ∧ Kp [p, R] HR H3) ⟨_, _, _, _, [], [], rfl, by fail "lk", by fail "lk", by fail "lk", FpL.nil, rfl, fun k r h => by simp at h, Kp.refl _ _⟩ ?_ ?_
      · rintro i σ H3 hi ⟨zk, z6, z7, z8, xs, rs, rfl, hD3, hp3, hR3, hf3, hl3, hr3, k3⟩
        fail "go"
        revert pN HN hpN hkN hxN
        intro I HI hpI hkI hxI
        have hDD : I ≠ D := by fail "ne"
        have hIp : p ≠ I := by fail "ne"
        refine g_forR (by omega) (fun o σ H4 => ∃ z7 z8 ys is, σ = [some (.ref p), some (.int m), some (.int (1 + v)), some (.ref D), some (.int i), some (.ref R), some (.ref I), z7, z8] ∧ PoolAt K H4 p e ∧ H4 I = some (.lst ys) ∧ FpL K H4 (is.map encP) ys ∧ ImpsOk ex i o 0 is ∧ Kp [p, I] HI H4) ⟨_, _, [], [], rfl, by fail "lk", by fail "lk", FpL.nil, ImpsOk.nil, Kp.refl _ _⟩ ?_ ?_
        · rintro o σ H4 ho2 ⟨z7, z8, ys, is, rfl, hp4, hI4, hf4, hi4, k4⟩
          have hDD4 : H4 D = some (.lst (ex.map V.int)) := by fail "lk"
          fail "go"
          refine uIx_LN (by fail "lk") (by omega) fun x hx2 => ?_
          have hx3 := ho x (List.mem_of_getElem? hx2)
          fail "go"
          refine g_forR (by omega) (fun q σ H5 => ∃ z8 ys is, σ = [some (.ref p), some (.int m), some (.int (1 + v)), some (.ref D), some (.int i), some (.ref R), some (.ref I), some (.int o), z8] ∧ PoolAt K H5 p e ∧ H5 I = some (.lst ys) ∧ FpL K H5 (is.map encP) ys ∧ ImpsOk ex i o q is ∧ Kp [p, I] H4 H5) ⟨_, ys, is, rfl, by fail "lk", by fail "lk", hf4, hi4, Kp.refl _ _⟩ ?_ ?_
          · rintro q σ H5 hq ⟨z8, ys5, is5, rfl, hp5, hI5, hf5, hi5, k5⟩
            have el5 := FpL.len hf5
            rw [List.length_map] at el5
            have hi5n := hi5.next
            fail "go"
            · refine ⟨_, _, is5 ++ [((o : Int), (q : Int))], rfl, by fail "lk", by assumption, ?_, hi5.add (by omega) (by omega) hx2 hq, by fail "kp"⟩
              rw [List.map_append]
              refine FpL.snoc (by fail "lk") (Fp.tup (by fail "lk") (FpL.cons (Fp.i _) (FpL.cons (Fp.i _) FpL.nil)))
            · exact ⟨_, _, is5, rfl, by fail "lk", by fail "lk", by fail "lk", hi5n, by fail "kp"⟩
            · exact ⟨_, _, is5, rfl, by fail "lk", by fail "lk", by fail "lk", hi5n, by fail "kp"⟩
            · exact ⟨_, _, is5, rfl, by fail "lk", by fail "lk", by fail "lk", hi5n, by fail "kp"⟩
          · rintro σ H5 ⟨z8, ys5, is5, rfl, hp5, hI5, hf5, hi5, k5⟩
            exact ⟨_, _, _, is5, rfl, hp5, hI5, hf5, hi5.row, by fail "kp"⟩
        · rintro σ H4 ⟨z7, z8, ys, is, rfl, hp4, hI4, hf4, hi4, k4⟩
          have hDD4 : H4 D = some (.lst (ex.map V.int)) := by fail "lk"
          have hRR4 : H4 R = some (.lst xs) := by fail "lk"
          have el4 := FpL.len hf4
          rw [List.length_map] at el4
          have hi4l := hi4.len
          have el3 := FpL.len hf3
          rw [List.length_map] at el3
          fail "go"
          · refine uIx_LN (by fail "lk") (by omega) fun x hx2 => ?_
            fail "go"
            refine g_frzYes (K := K) hxN fun H6 k6 h6 => ?_
            fail "go"
            refine ⟨_, _, _, _, _, rs ++ [(x, is.reverse)], rfl, by fail "lk", by fail "lk", by assumption, ?_, by simp [hl3], fun k r hk => ?_, by fail "kp"⟩
            · rw [List.map_append]
              refine FpL.snoc (by fail "lk") (Fp.tup (by fail "lk") (FpL.cons (Fp.i _) (FpL.cons (Fp.lst (by fail "lk") ?_) FpL.nil)))
              rw [List.map_reverse]
              exact FpL.rev (by fail "lk")
            · by_cases hk2 : k < rs.length
              · rw [List.getElem?_append_left hk2] at hk
                exact hr3 k r hk
              · have hk3 : k = rs.length := by
                  have := (List.getElem?_eq_some_iff.mp hk).1
                  simp at this
                  omega
                subst hk3
                rw [List.getElem?_append_right (Nat.le_refl _)] at hk
                simp at hk
                subst hk
                rw [hl3]
                exact ImpsOk.rowOk hi4.rev hx2
          · refine uIx_LN (by fail "lk") (by omega) fun x hx2 => ?_
            fail "go"
            refine g_frzYes (K := K) (by fail "lk") fun H6 k6 h6 => ?_
            fail "go"
            refine ⟨_, _, _, _, _, rs ++ [(x, is)], rfl, by fail "lk", by fail "lk", by assumption, ?_, by simp [hl3], fun k r hk => ?_, by fail "kp"⟩
            · rw [List.map_append]
              refine FpL.snoc (by fail "lk") (Fp.tup (by fail "lk") (FpL.cons (Fp.i _) (FpL.cons (Fp.lst (by fail "lk") ?_) FpL.nil)))
              fail "lk"
            · by_cases hk2 : k < rs.length
              · rw [List.getElem?_append_left hk2] at hk
                exact hr3 k r hk
              · have hk3 : k = rs.length := by
                  have := (List.getElem?_eq_some_iff.mp hk).1
                  simp at this
                  omega
                subst hk3
                rw [List.getElem?_append_right (Nat.le_refl _)] at hk
                simp at hk
                subst hk
                rw [hl3]
                exact ImpsOk.rowOk hi4 hx2
      · rintro σ H3 ⟨zk, z6, z7, z8, xs, rs, rfl, hD3, hp3, hR3, hf3, hl3, hr3, k3⟩
        fail "go"
        refine g_frzYes (K := K) hR3 fun H6 k6 h6 => ?_
        exact k _ _ rs (by fail "lk") (by fail "kp") (RowsOk.mk' (by omega) (by omega) ho (by omega) hr3) (Fp.lst h6 (by fail "lk"))
end
set_option hygiene false in
local macro_rules | `(tactic| fail "cl") => `(tactic| with_reducible first
  | exact T.cls_Policy)
set_option hygiene false in
local macro_rules | `(tactic| fail "na") => `(tactic| with_reducible first
  | exact T.noat_Policy_rules)
set_option hygiene false in
local macro_rules | `(tactic| fail "sp") => `(tactic| first
  | fail "none")
section
variable {P : Program} {w : World} {K : PySem.W.Frag} {mg : Str → Option Value} {base : Heap}

inductive SpI_law_pool (K : PySem.W.Frag) (H : Hp) (Q : VK) (E : XK) : List V → Prop
  | mk (a : Addr) (ns : List Int) (e : Int) (hs : SqL K H a (ns.map V.int)) (hn : ns.length ≤ 63) (k : ∀ p H', H p = none → PoolAt K H' p e → Kp [] H H' → Q (.ref p) H') : SpI_law_pool K H Q E [.ref a, .int e]
abbrev Sp_law_pool (K : PySem.W.Frag) : Sp := fun vs H Q E => SpI_law_pool K H Q E vs
theorem sc_law_pool : FnScope ["_law_script", "_law_budget"] ["_law_script", "_law_budget"] (defScope s_law_pool) := ⟨rfl, rfl, rfl, by decide +kernel, rfl, by decide +kernel, by decide +kernel⟩
theorem ok_law_pool (T : Tx K mg) : Cal P w K mg base CX0 1 (ga K "_law_pool") ["_law_script", "_law_budget"] (Sp_law_pool K) := by

  obtain ⟨fd, F⟩ := T.c.def_ 4 rfl
  refine Cal.of (k := 0) F (F.bindsN fun _ _ _ _ _ _ us hl => match us, hl with | [_, _], _ => rfl) sc_law_pool (fun vs H Q E h => by cases h; rfl) (fun cdv A outer s H vs Q E hRm h => ?_)
  have sc := sc_law_pool
  have hu64 := hRm.units
  cases h with | mk a ns e hs hn k =>
    refine ⟨_, pss_one (ps_ret (pe_lst (pa_cons (pe_frz (pe_callTy (k_list K) (by rfl) T.f_list (by decide +kernel) (pa_cons (pv 0) pa_nil))) (pa_cons pe_int (pa_cons pe_int (pa_cons pe_int (pa_cons pe_int (pa_cons (pv 1) pa_nil)))))))), ?_⟩
    refine g_start (σ := [some (.ref a), some (.int e)]) rfl ?_
    fail "go"
    refine g_frzYes (K := K) hxN fun H2 k2 h2 => ?_
    fail "go"
    exact k _ _ (by fail "fr") ⟨_, ns, _, _, _, _, ‹_›, by fail "lk", hn, by omega, by omega, by omega⟩ (by fail "kp")
end
set_option hygiene false in
local macro_rules | `(tactic| fail "cl") => `(tactic| with_reducible first
  | exact T.cls_Policy)
set_option hygiene false in
local macro_rules | `(tactic| fail "na") => `(tactic| with_reducible first
  | exact T.noat_Policy_rules)
set_option hygiene false in
local macro_rules | `(tactic| fail "sp") => `(tactic| first
  | ((with_reducible apply SpI_law_same.mk); (case hx => fail "lk"); (case hy => fail "lk"); (first | (case hn => first | assumption | (simp only [dep, depL]; omega) | (simp only [dep, depL]; decide)) | skip); (first | (case hl => first | assumption | rfl) | skip); (case' k => intro H' g1))
  | ((with_reducible apply SpI_broken_at.mk); (first | (case ha => fail "sd") | skip); (first | (case hl => fail "sd") | skip); (first | (case hx => fail "sd") | skip); (case' k => intro H' g1))
  | ((with_reducible apply SpI_state_after.mk); (first | (case ha => fail "sd") | skip); (first | (case hl => fail "sd") | skip); (first | (case hx => fail "sd") | skip); (case' k => intro H' g1))
  | ((with_reducible apply SpI_Policy_after.mk); (first | (case ha => fail "sd") | skip); (first | (case he => fail "sd") | skip); (case' k => intro H' g1))
  | ((with_reducible apply SpI_law_next.mk); (first | (case hl => fail "sd") | skip); (first | (case hx => fail "sd") | skip); (first | (case he => fail "sd") | skip); (first | (case hk => fail "sd") | skip); (case' k => intro H' g1))
  | ((with_reducible apply SpI_Policy_ini.mk); (first | (case ha => fail "sd") | skip); (first | (case hl => fail "sd") | skip); (first | (case hx => fail "sd") | skip); (case' k => intro H' g1 g2))
  | ((with_reducible apply SpI_law_draw.mk); (first | (case hp => fail "sd") | skip); (first | (case h0 => fail "sd") | skip); (first | (case h1 => fail "sd") | skip); (case' k => intro v H' g1 g2 g3 g4))
  | ((with_reducible apply SpI_law_drawn.mk); (first | (case hp => fail "sd") | skip); (first | (case hr => fail "sd") | skip); (first | (case ho => fail "sd") | skip); (first | (case h0 => fail "sd") | skip); (first | (case h1 => fail "sd") | skip); (case' k => intro v H' tr st g1 g2 g3 g4 g5 g6))
  | ((with_reducible apply SpI_law_rows.mk); (first | (case hp => fail "sd") | skip); (first | (case h0 => fail "sd") | skip); (first | (case h1 => fail "sd") | skip); (case' k => intro v H' rs g1 g2 g3 g4))
  | ((with_reducible apply SpI_law_pool.mk); (first | (case hs => fail "sd") | skip); (first | (case hn => fail "sd") | skip); (case' k => intro p H' g1 g2 g3)))
section
variable {P : Program} {w : World} {K : PySem.W.Frag} {mg : Str → Option Value} {base : Heap}

inductive SpI_law (K : PySem.W.Frag) (H : Hp) (Q : VK) (E : XK) : List V → Prop
  | mk (a : Addr) (ns : List Int) (hs : SqF K H a (ns.map V.int)) (hn : ns.length ≤ 63) (k : ∀ H', Q (.bl true) H') : SpI_law K H Q E [.ref a]
abbrev Sp_law (K : PySem.W.Frag) : Sp := fun vs H Q E => SpI_law K H Q E vs
theorem sc_law : FnScope ["_law_script", "_law_pool_here", "_law_rows_here", "_law_trace", "_law_rules", "_law_k", "_law_kind", "_law_passed", "_law_policy", "_law_state", "_law_broken", "_law_due"] ["_law_script"] (defScope s_law) := ⟨rfl, rfl, rfl, by decide +kernel, rfl, by decide +kernel, by decide +kernel⟩
theorem ok_law (T : Tx K mg) {fd : FuncData} (F : FunD K d_law.name d_law.qual d_law.params d_law.body d_law.scope (d_law.dvs K) (d_law.kws K) (fAd K d_law.at_) fd) : FnOk P w K mg base CX0 61 (ga K "law") fd ["_law_script"] (Sp_law K) := by
  have C_law_same := ok_law_same (P := P) (w := w) (base := base) T
  have C_broken_at := ok_broken_at (P := P) (w := w) (base := base) T
  have C_state_after := ok_state_after (P := P) (w := w) (base := base) T
  have C_Policy_after := ok_Policy_after (P := P) (w := w) (base := base) T
  have C_law_next := ok_law_next (P := P) (w := w) (base := base) T
  have C_Policy_ini := ok_Policy_ini (P := P) (w := w) (base := base) T
  have C_law_draw := ok_law_draw (P := P) (w := w) (base := base) T
  have C_law_drawn := ok_law_drawn (P := P) (w := w) (base := base) T
  have C_law_rows := ok_law_rows (P := P) (w := w) (base := base) T
  have C_law_pool := ok_law_pool (P := P) (w := w) (base := base) T
  refine Fn.of (k := 60) F sc_law (fun vs H Q E h => by cases h; rfl) (fun cdv A outer s H vs Q E hRm h => ?_)
  have sc := sc_law
  have hu64 := hRm.units
  cases h with | mk a ns hs hn k =>
    refine ⟨_, pss_cons (ps_set (i := 1) sc.nd rfl (Or.inl rfl) (pc_call C_law_pool (hRm.mono (by decide)) (by rfl) T.g__law_pool (pa_cons (pv 0) (pa_cons pe_int pa_nil)))) (pss_cons (ps_set (i := 2) sc.nd rfl (Or.inl rfl) (pc_call C_law_rows (hRm.mono (by decide)) (by rfl) T.g__law_rows (pa_cons (pv 1) (pa_cons pe_int pa_nil)))) (pss_cons (ps_set (i := 3) sc.nd rfl (Or.inl rfl) (pc_call C_law_drawn (hRm.mono (by decide)) (by rfl) T.g__law_drawn (pa_cons (pv 1) (pa_cons (pv 2) (pa_cons pe_int pa_nil))))) (pss_cons (ps_set (i := 4) sc.nd rfl (Or.inl rfl) (pe_lst pa_nil)) (pss_cons (ps_for PassesOwn.never rfl (pi_range1 (by rfl) T.f_range (pa_cons (pc_call C_law_draw (hRm.mono (by decide)) (by rfl) T.g__law_draw (pa_cons (pv 1) (pa_cons pe_int pa_nil))) pa_nil)) (pg_name (i := 5) sc.nd rfl (Or.inl rfl)) (pss_cons (ps_set (i := 6) sc.nd rfl (Or.inl rfl) (k_ix K (pe_tup (pa_cons pe_str (pa_cons pe_str (pa_cons pe_str (pa_cons pe_str (pa_cons pe_str pa_nil)))))) (pc_call C_law_draw (hRm.mono (by decide)) (by rfl) T.g__law_draw (pa_cons (pv 1) (pa_cons pe_int pa_nil))))) (pss_one (ps_expr (k_append K (pv 4) (pa_cons (pe_tup (pa_cons (pe_op u_sub (pc_call C_law_draw (hRm.mono (by decide)) (by rfl) T.g__law_draw (pa_cons (pv 1) (pa_cons pe_int pa_nil))) pe_int) (pa_cons (pv 6) (pa_cons (pc_call C_law_draw (hRm.mono (by decide)) (by rfl) T.g__law_draw (pa_cons (pv 1) (pa_cons (pe_callB (k_len K) (by rfl) T.f_len (by decide +kernel) (pa_cons (pv 2) pa_nil)) pa_nil))) (pa_cons (pe_op u_sub (pc_call C_law_draw (hRm.mono (by decide)) (by rfl) T.g__law_draw (pa_cons (pv 1) (pa_cons pe_int pa_nil))) pe_int) pa_nil))))) pa_nil)))))) (pss_cons (ps_set (i := 7) sc.nd rfl (Or.inl rfl) (pe_frz (pe_lst (pa_cons (pe_frz (pe_callTy (k_list K) (by rfl) T.f_list (by decide +kernel) (pa_cons (pe_frz (pv 4)) pa_nil))) (pa_cons (pe_frz (pe_callTy (k_list K) (by rfl) T.f_list (by decide +kernel) (pa_cons (pv 3) pa_nil))) pa_nil))))) (pss_cons (ps_set (i := 8) sc.nd rfl (Or.inl rfl) (pc_make T.mkr_Policy C_Policy_ini (hRm.mono (by decide)) (by rfl) T.g_Policy (pa_cons (k_ix K (pv 7) pe_int) pa_nil))) (pss_cons (ps_set (i := 9) sc.nd rfl (Or.inl rfl) pe_int) (pss_cons (ps_set (i := 10) sc.nd rfl (Or.inl rfl) pe_non) (pss_cons (ps_for PassesOwn.never rfl (pi_range1 (by rfl) T.f_range (pa_cons (pe_callB (k_len K) (by rfl) T.f_len (by decide +kernel) (pa_cons (pv 3) pa_nil)) pa_nil)) (pg_name (i := 5) sc.nd rfl (Or.inl rfl)) (pss_cons (ps_set (i := 11) sc.nd rfl (Or.inl rfl) (pc_call C_law_next (hRm.mono (by decide)) (by rfl) T.g__law_next (pa_cons (pv 4) (pa_cons (pv 9) (pa_cons (k_ix K (pv 3) (pv 5)) pa_nil))))) (pss_cons (ps_if ((pw_or (pt_not (k_tr K (pc_call C_law_same (hRm.mono (by decide)) (by rfl) T.g__law_same (pa_cons (pc_meth (pv 8) T.cls_Policy T.meth_Policy_after C_Policy_after (hRm.mono (by decide)) (pa_cons (pv 9) (pa_cons (k_ix K (pv 3) (pv 5)) pa_nil))) (pa_cons (pv 11) pa_nil))))) (pw_or1 (pt_not (k_tr K (pc_call C_law_same (hRm.mono (by decide)) (by rfl) T.g__law_same (pa_cons (pc_meth (pv 8) T.cls_Policy T.meth_Policy_after C_Policy_after (hRm.mono (by decide)) (pa_cons (pe_un un_neg pe_int) (pa_cons (k_ix K (pv 3) (pv 5)) pa_nil))) (pa_cons (pe_un un_neg pe_int) pa_nil))))))).pt) (pss_one (ps_ret pe_bl)) pss_nil) (pss_cons (ps_if ((pw_and (pt_cmpR (k_eq K hu64) (pv 11) (pe_un un_neg pe_int) (nomark _)) (pw_and1 (pt_cmpR u_is (pv 10) pe_non (nomark _)))).pt) (pss_one (ps_set (i := 10) sc.nd rfl (Or.inl rfl) (pv 5))) pss_nil) (pss_one (ps_set (i := 9) sc.nd rfl (Or.inl rfl) (pv 11))))))) (pss_cons (ps_if (pt_not (k_tr K (pc_call C_law_same (hRm.mono (by decide)) (by rfl) T.g__law_same (pa_cons (pe_frz (pe_lst (pa_cons (pc_call C_state_after (hRm.mono (by decide)) (by rfl) T.g_state_after (pa_cons (pv 8) (pa_cons (k_ix K (pv 7) pe_int) pa_nil))) (pa_cons (pc_call C_broken_at (hRm.mono (by decide)) (by rfl) T.g_broken_at (pa_cons (pv 8) (pa_cons (k_ix K (pv 7) pe_int) pa_nil))) pa_nil)))) (pa_cons (pe_frz (pe_lst (pa_cons (pv 9) (pa_cons (pv 10) pa_nil)))) pa_nil))))) (pss_one (ps_ret pe_bl)) pss_nil) (pss_one (ps_ret (pe_cmpR (k_eq K hu64) (pv 7) (pe_frz (pe_lst (pa_cons (pv 4) (pa_cons (pv 3) pa_nil)))) (nomark _)))))))))))))), ?_⟩
    refine g_start (σ := [some (.ref a), none, none, none, none, none, none, none, none, none, none, none]) rfl ?_
    fail "go"
    rename_i HP kP0 kP1 kP2 RV HR hR1 hR2 hRo hRv TV HT hT1 hT2 hTr hTl
    have hTw := g5
    have hTv := g6
    clear g5 g6
    obtain ⟨L, eL⟩ : ∃ z, z = pN := ⟨_, rfl⟩
    subst eL
    obtain ⟨HL, eHL⟩ : ∃ z, z = HN := ⟨_, rfl⟩
    subst eHL
    obtain ⟨RA, rx, rfl, hRA, hrx⟩ := hRv.lstE
    obtain ⟨TA, tx, rfl, hTA, htx⟩ := hTv.lstE
    have elr := FpL.len hrx
    have elt := FpL.len htx
    rw [List.length_map] at elr elt
    have hlen0 := hRo.len0
    have hlen1 := hRo.len1
    refine g_forR (by omega) (fun i σ H1 => ∃ z5 z6 xs rules, σ = [some (.ref a), some (.ref p), some (.ref RA), some (.ref TA), some (.ref L), z5, z6, none, none, none, none, none] ∧ PoolAt K H1 p 0 ∧ H1 L = some (.lst xs) ∧ FpL K H1 (rules.map encRule) xs ∧ xs.length = i ∧ (∀ r ∈ rules, kindOk r.kind) ∧ Kp [p, L] H' H1) ⟨_, _, [], [], rfl, by fail "lk", by fail "lk", FpL.nil, rfl, fun _ h => (List.not_mem_nil h).elim, Kp.refl _ _⟩ ?_ ?_
    · rintro i σ H1 hi ⟨z5, z6, xs, rules, rfl, q1, q2, q3, q4, q5, q6⟩
      fail "go"
      refine uIx_TM (by fail "lk") (by omega) (by (simp only [List.length_cons, List.length_nil]); omega) fun x hx => ?_
      obtain ⟨kd, rfl, hk⟩ : ∃ kd, x = .str kd ∧ kindOk kd := by
        simp only [List.mem_cons, List.not_mem_nil, or_false] at hx
        rcases hx with rfl | rfl | rfl | rfl | rfl
        · exact ⟨_, rfl, .inl rfl⟩
        · exact ⟨_, rfl, .inr (.inl rfl)⟩
        · exact ⟨_, rfl, .inr (.inr rfl)⟩
        · exact ⟨_, rfl, .inl rfl⟩
        · exact ⟨_, rfl, .inr (.inl rfl)⟩
      fail "go"
      have hch : Kp [p, L] H1 HM := by fail "kp"
      exact ⟨_, _, _, rules ++ [⟨_, kd, _, _⟩], rfl, by fail "lk", by fail "lk", by rw [List.map_append]; exact FpL.snoc (FpL.kp hch _ _ q3) (Fp.ruleI (r := ⟨_, kd, _, _⟩) (by fail "lk")), by simp [q4], fun r hr => by
        rcases List.mem_append.mp hr with z | z
        · exact q5 r z
        · rw [List.mem_singleton.mp z]; exact hk, by fail "kp"⟩
    · rintro σ H1 ⟨z5, z6, xs, rules, rfl, q1, q2, q3, q4, q5, q6⟩
      fail "go"
      refine g_frzYes (K := K) q2 fun H2 k2 h2 => ?_
      have q3' : FpL K H2 (rules.map encRule) xs := FpL.kp k2 _ _ q3
      fail "go"
      refine g_frzYes (K := K) hxN fun H3 k3 h3 => ?_
      obtain ⟨RB, eRB⟩ : ∃ z, z = pN := ⟨_, rfl⟩
      subst eRB
      fail "go"
      obtain ⟨TB, eTB⟩ : ∃ z, z = pN := ⟨_, rfl⟩
      subst eTB
      refine g_frzYes (K := K) hxN fun H4 k4 h4 => ?_
      fail "go"
      obtain ⟨PA, ePA⟩ : ∃ z, z = pN := ⟨_, rfl⟩
      subst ePA
      refine g_frzYes (K := K) hxN fun H5 k5 h5 => ?_
      have hRB : SqF K H5 RB xs := by fail "lk"
      have hTB : SqF K H5 TB tx := by fail "lk"
      have hxR : FpL K H5 (rules.map encRule) xs := by fail "lk"
      have hxT : FpL K H5 (tr.map encEv) tx := by fail "lk"
      have hPA : Fp K H5 (.list [.list (rules.map encRule), .list (tr.map encEv)]) (.ref PA) := Fp.lst h5 (FpL.cons (Fp.lst hRB hxR) (FpL.cons (Fp.lst hTB hxT) FpL.nil))
      fail "go"
      refine ⟨rfl, ?_⟩
      obtain ⟨PO, ePO⟩ : ∃ z, z = pN := ⟨_, rfl⟩
      subst ePO
      obtain ⟨HQ, eHQ⟩ : ∃ z, z = H' := ⟨_, rfl⟩
      subst eHQ
      have q2Q : PolicyAt K HQ PO rules := g1
      obtain ⟨dq, rq, yq, hpo, hrq, hyq⟩ := id g1
      clear hyq
      fail "go"
      refine g_forR (by omega) (fun i σ H1 => ∃ z5 bv z11, σ = [some (.ref a), some (.ref p), some (.ref RA), some (.ref TA), some (.ref L), z5, z6, some (.ref PA), some (.ref PO), some (.int (polRun rules 0 (tr.take i))), some bv, z11] ∧ ((bv = .non ∧ polBroken rules 0 0 tr = polBroken rules (polRun rules 0 (tr.take i)) i (tr.drop i)) ∨ ∃ j : Nat, bv = .int j ∧ polBroken rules 0 0 tr = some j) ∧ Kp [] HQ H1) ⟨_, _, _, rfl, .inl ⟨rfl, rfl⟩, Kp.refl _ _⟩ ?_ ?_
      · rintro i σ H6 hi ⟨y5, bv, y11, rfl, hb, q7⟩
        have hit : i < tr.length := by omega
        obtain ⟨ev, hev⟩ : ∃ ev, tr[i]? = some ev := ⟨_, List.getElem?_eq_getElem hit⟩
        obtain ⟨xv, hxv, hfe⟩ := FpL.get hxT (d := encEv ev) (i := i) (by rw [List.getElem?_map, hev]; rfl)
        have hfe6 : Fp K H6 (encEv ev) xv := by fail "lk"
        have hTA6 : SqF K H6 TA tx := by fail "lk"
        have eix : atI tx i = some xv := atI_nat hxv
        have hL6 : H6 L = some (.lst xs) ∨ SqF K H6 L xs := .inr (by fail "lk")
        have hk6 : ∀ r ∈ rules, r.kind = "call" ∨ r.kind = "return" ∨ r.kind = "end" := fun r hr => q5 r hr
        fail "go"
        · exact absurd hc (by simp [dsame])
        · exact absurd hc (by rw [polAfter_broken]; simp [dsame])
        · refine ⟨_, _, _, by rw [polRun_take hev]; rfl, .inr ⟨i, rfl, ?_⟩, by fail "kp"⟩
          rcases hb with ⟨_, hb⟩ | ⟨j, hj, _⟩
          · rw [hb, polBroken_drop hev, if_pos hc.1]
          · rw [hj] at hc
            cases hc.2
        · refine ⟨_, _, _, by rw [polRun_take hev]; rfl, ?_, by fail "kp"⟩
          rcases hb with ⟨e1, hb⟩ | hb
          · refine .inl ⟨e1, ?_⟩
            rw [hb, polBroken_drop hev, if_neg fun z => hc ⟨z, e1⟩, polRun_take hev]
          · exact .inr hb
      · rintro σ H6 ⟨y5, bv, y11, rfl, hb, q7⟩
        have hT6 : H6 TB = some (.lst tx) ∨ SqF K H6 TB tx := .inr (by fail "lk")
        have eB : bv = (match polBroken rules 0 0 tr with | some i => .int i | none => .non) := by
          rcases hb with ⟨e1, hb⟩ | ⟨j, e1, hb⟩
          · rw [hb, List.drop_eq_nil_of_le (by omega), e1]; rfl
          · rw [hb, e1]
        have eN : (tx.length : Int).toNat = tr.length := by omega
        subst eB
        obtain ⟨dB, hdB, gB⟩ : ∃ dB, (∀ H', Fp K H' dB (match polBroken rules 0 0 tr with | some i => .int i | none => .non)) ∧ ((dB = .none) ∨ ∃ j, dB = .int j) := by
          cases polBroken rules 0 0 tr with
          | none => exact ⟨.none, fun H' => Fp.n, .inl rfl⟩
          | some j => exact ⟨.int j, fun H' => Fp.i _, .inr ⟨_, rfl⟩⟩
        have eR : polRun rules 0 (tr.take (tx.length : Int).toNat) = polRun rules 0 tr := by rw [eN, List.take_length]
        rw [eR]
        fail "go"
        · obtain ⟨SA, eSA⟩ : ∃ z, z = pN := ⟨_, rfl⟩
          subst eSA
          refine g_frzYes (K := K) hxN fun H7 k7 h7 => ?_
          have hSA := Fp.lst h7 (FpL.cons (Fp.i (polRun rules 0 tr)) (FpL.cons (hdB H7) FpL.nil))
          fail "go"
          obtain ⟨SB, eSB⟩ : ∃ z, z = pN := ⟨_, rfl⟩
          subst eSB
          refine g_frzYes (K := K) hxN fun H8 k8 h8 => ?_
          have hSB := Fp.lst h8 (FpL.cons (Fp.i (polRun rules 0 tr)) (FpL.cons (hdB H8) FpL.nil))
          fail "go"
          · exfalso
            rw [dsame_refl _ (by rcases gB with rfl | ⟨j, rfl⟩ <;> rfl)] at hc
            cases hc
          · obtain ⟨FA, eFA⟩ : ∃ z, z = pN := ⟨_, rfl⟩
            subst eFA
            refine g_frzYes (K := K) hxN fun H9 k9 h9 => ?_
            have hL9 : SqF K H9 L xs := by fail "lk"
            have hT9 : SqF K H9 TA tx := by fail "lk"
            have hxR9 : FpL K H9 (rules.map encRule) xs := by fail "lk"
            have hxT9 : FpL K H9 (tr.map encEv) tx := by fail "lk"
            have hFA : Fp K H9 (.list [.list (rules.map encRule), .list (tr.map encEv)]) (.ref FA) := Fp.lst h9 (FpL.cons (Fp.lst hL9 hxR9) (FpL.cons (Fp.lst hT9 hxT9) FpL.nil))
            have hPA9 : Fp K H9 (.list [.list (rules.map encRule), .list (tr.map encEv)]) (.ref PA) := by fail "lk"
            fail "go"
            refine uEq_refl hPA9 hFA ?_ ?_ (k _)
            · simp only [good, goodL, Bool.and_true, Bool.and_eq_true]
              exact ⟨goodL_map fun r hr => good_rule (q5 r hr), goodL_map fun e _ => good_ev e⟩
            · exact Nat.le_trans (depth_list (n := 2) (depthAll_cons (depth_list (depthAll_map fun r _ => depth_rule)) (depthAll_cons (depth_list (depthAll_map fun e _ => depth_ev e)) depthAll_nil))) (by decide)
          · rcases gB with rfl | ⟨j, rfl⟩ <;> simp [dep, depL]
          · rcases gB with rfl | ⟨j, rfl⟩ <;> rfl
        · exact .inr (hT6.elim (fun z => by fail "lk") (fun z => by fail "lk"))
end
end BX
namespace BX
open PySem PySem.Spec PyProof.Rows L2 He BL
set_option maxRecDepth 100000
def loose0 : List PySem.Str := ["__name__", "BROKEN", "Policy", "state_after", "broken_at", "_law_pool", "_law_draw", "_law_spend", "_law_few", "_law_number", "_law_same", "_law_rows", "_law_drawn", "_law_next"]
def loose : List PySem.Str := loose0
abbrev R : PySem.W.OpenRow := PySem.W.OpenLaw.row PySem.Challenge.rw_blameless_k70_policies
abbrev hk : PySem.W.Hook := BH.hookX 5 qs fn
def ob (s : PySem.W.SharedT) : He.AlD := BH.obsXG 5 qs fn (HandSHeadRun.getT s)
theorem ob_eq (s : PySem.W.SharedT) : ob s = hk.obs s.abs := BH.obsXG_eq (HandSHeadRun.getT_eq s)
theorem run (w : World) : HandSHeadRun.RunEq R (PySem.W.view R.prog [15]) hk ob 12000 loose w := by
  intro os
  kernel_rfl
theorem walk : PySem.W.WalkO (PySem.W.view R.prog [15]) loose (PySem.W.XL (PySem.W.view R.prog [15]) []) hk.says R.toRowW (HandSHeadRun.topDef R.prog 15) [] fun f vs => PySem.call f vs := by
  refine BH.walk_ofEB (l := PySem.Challenge.rw_blameless_k70_policies) (n := 63) (k := 61) (x := "_law_script") (CX := fun _ => L2.CX0) rfl (by decide) (by kernel_rfl) ⟨rfl, by decide, by decide⟩ ?F (fun _ _ _ _ _ z => z)
  intro w mg fa h Y G hmg0
  obtain ⟨K, KX, c⟩ := Y
  have hmg : mg ("law" : PySem.Str) = some (.ref fa) := by
    have e : (HandSHeadRun.topDef R.prog 15).name = ("law" : PySem.Str) := by kernel_rfl
    rw [← e]
    exact hmg0
  have T : Tx K mg := ⟨⟨h, KX, G⟩, c⟩
  have e2 := hmg.symm.trans T.g_law
  cases e2
  obtain ⟨fd, F⟩ := T.c.def_ 13 (d := d_law) rfl
  have b := FunD.bindsA (ps := ["_law_script"]) F fun _ _ _ _ _ _ us hl => match us, hl with | [_], _ => rfl
  exact ⟨K, fd, Sp_law K, KX, fun s v => b s [v] rfl, fun H a ns hl hb hO hS => SpI_law.mk a ns (only_frz hO hS) hl fun _ => rfl, fun base _ _ => ok_law T F⟩
end BX
open PySem PySem.W PySem.Calls PyProof.Rows
theorem PySem.Challenge.cw_blameless_k70_policies_holds : PySem.Challenge.rw_blameless_k70_policies.Holds := by
  w_on; o_law
  refine HandSHeadRun.head_any (r := OpenLaw.row PySem.Challenge.rw_blameless_k70_policies) (q := view (OpenLaw.row PySem.Challenge.rw_blameless_k70_policies).prog [15]) (H := BX.hk) (ob := BX.ob) (M := 12000) (loose := BX.loose) (d := HandSHeadRun.topDef (OpenLaw.row PySem.Challenge.rw_blameless_k70_policies).prog 15) (kwd := []) BX.ob_eq
    (by kernel_rfl) (fun s => by kernel_rfl) BX.run (by kernel_rfl) (by kernel_rfl) (by kernel_rfl) (by rfl) (by first | assumption | decide +kernel) (by decide +kernel) ⟨rfl, rfl, rfl, rfl, rfl, by decide +kernel⟩ ?hw ?hc
  case hw => w_witness2
  case hc => exact BX.walk

