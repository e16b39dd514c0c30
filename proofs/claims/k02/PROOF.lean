import PyProof.Rows.All
import Wide.All
import OpenK.AllK
import Wide.FinOn
import KE.KStateDown
import HandS.ForMost
import HandS.ForExc
import HandS.Defaults
import HandS.Head0
import HandS.Head1
import HandS.Head2
import HandS.HeadEnd
import HandS.HeadHook1
import HandS.HeadHook2
import HandS.EndBits
import HandS.TupAny
import HandS.TupMul
import HandS.IsInst
import HandS.Deep
import HandS.Wide
import HandS.FStr
import HandS.RaiseMore
import HandS.Codes
import HandS.Rev
import HandS.Zip
import HandS.Style
import KE.KExcSuper
import KE.KSuper
import HandS.ExcIs
import HandS.TryOnly
import HandS.ExcOwn
import HandS.Lambda
import HandS.Steps
import PyProof.EnumMake
import PyProof.Draws
import KE.GoesMore
import HandS.Property
import HandS.Star
import HandS.Strs
import HandS.Exc
import HandS.ExcField
import HandS.HotCalls
import HandS.WordsExc
import KE.KExcIs
import HandS.Dict
import PySem.Challenge.RW_blameless_k02_interfaces
set_option Elab.async false
set_option linter.all false
set_option maxRecDepth 100000
set_option maxHeartbeats 2000000
/-! ## The head of a law: facts of every def and class, by names (own text) -/
namespace BH
open PySem PySem.Spec PyProof.Rows L2 He
/-- facts are Bool questions about the written part -/
abbrev Qs : Type := List (PySem.W.Frag → Bool)
def obsX (qs : Qs) (fn : List DefD) (K : PySem.W.Frag) : AlD := ((qs.all fun f => f K) && fn.all fun d => d.ok K, fn.map fun d => fnW K d.at_)
def SaysX (qs : Qs) (fn : List DefD) (K : PySem.W.Frag) : Prop := obsX qs fn K = valD fn
def obsXG (n : Nat) (qs : Qs) (fn : List DefD) (g : Addr → Option Obj) : AlD := obsX qs fn (frG g (cStatics :: asD g n))
def hookX (n : Nat) (qs : Qs) (fn : List DefD) : PySem.W.Hook where
  α := AlD
  obs := fun s => obsXG n qs fn s.heap.get?
  val := fun _ => valD fn
  says := fun _ h => ∃ K : PySem.W.Frag, K.In h ∧ SaysX qs fn K
  of := fun _ _ e => ⟨_, frG_in, e⟩
  keeps := fun _ _ _ ⟨K, hK, c⟩ k => ⟨K, PySem.W.Frag.In.keeps hK k, c⟩
theorem obsXG_eq {n : Nat} {qs : Qs} {fn : List DefD} {g : Addr → Option Obj} {s : Shared} (h : ∀ a, g a = s.heap.get? a) : obsXG n qs fn g = (hookX n qs fn).obs s := by
  have e : g = s.heap.get? := funext h
  rw [e] <;> rfl
section
variable {qs : Qs} {fn : List DefD} {K : PySem.W.Frag}
theorem SaysX.fact (c : SaysX qs fn K) (i : Nat) {f : PySem.W.Frag → Bool} (h : qs[i]? = some f := by rfl) : f K = true := by
  have c1 := (ba (show ((qs.all fun f => f K) && fn.all fun d => d.ok K) = true from congrArg (fun z : AlD => z.1) c)).1
  exact List.all_eq_true.mp c1 f (List.mem_of_getElem? h)
theorem SaysX.def_ (c : SaysX qs fn K) (i : Nat) {d : DefD} (h : fn[i]? = some d := by rfl) : ∃ fd, FunD K d.name d.qual d.params d.body d.scope (d.dvs K) (d.kws K) (fAd K d.at_) fd := by
  have c2 := (ba (show ((qs.all fun f => f K) && fn.all fun d => d.ok K) = true from congrArg (fun z : AlD => z.1) c)).2
  have e : fn.map (fun d => fnW K d.at_) = fn.map DefD.val := congrArg (fun z : AlD => z.2) c
  have e2 : (fn.map fun d => fnW K d.at_)[i]? = (fn.map DefD.val)[i]? := by rw [e]
  rw [List.getElem?_map, List.getElem?_map, h] at e2
  exact DefD.funD (Option.some.inj e2) (List.all_eq_true.mp c2 d (List.mem_of_getElem? h))
end
/-- the end of a law over a head by facts, the script's bits told -/
theorem walk_ofEB {l : PySem.W.OpenLaw} {n k : Nat} {q : Program} {loose : List Str} {XP : (Str → Option Value) → Heap → Prop} {YP : World → Heap → Prop} {d : DefRec} {CX : World → CXT} {x : Str}
    (hn : l.most = some n) (hn2 : n ≤ sizeLine) (hdf : d.params.defaults = []) (hr : Room k callerA)
    (F : ∀ (w : World) (mg : Str → Option Value) (fa : Addr) (h : Heap), YP w h → h.Ns mainGlobals mg → mg d.name = some (.ref fa) →
      ∃ (K : PySem.W.Frag) (fd : FuncData) (sp : Sp), K.In h ∧ (∀ (s : Shared) (u : Value), BindsTo s fd ⟨[u], []⟩ [(x, u)]) ∧
        (∀ (H : Hp) (a : Addr) (ns : List Int), ns.length ≤ n → (∀ n ∈ ns, Builtin.Int.intBits n ≤ 1048576) → Only H → SqL K H a (ns.map V.int) → sp [.ref a] H (fun v _ => v = .bl true) fun _ _ _ => False) ∧
        ∀ base : Heap, K.In base → base.Ns mainGlobals mg → FnOk l.prog w K mg base (CX w) k fa fd [x] sp)
    (hCX : ∀ (w : World) (H : Hp) (s : Shared) (e : Value) (s' : Shared), CX w [] H s (fun _ _ _ => False) e s' → False) :
    PySem.W.WalkO q loose XP YP l.row.toRowW d [] (fun f vs => PySem.call f vs) := by
  refine Att.attach_callB hn hdf fun w s₀ s₁ mg mb fa o pm cd doc a vs ns G Y ho hd hcd hmg hobj hints hlen hbits hg => ?_
  obtain ⟨K, fd, sp, KX, hb, hsp, hF⟩ := F w mg fa _ Y G.T.g hmg
  exact law_call KX G.T.g G.T.b G.T.builtins G.T.nolimit hg hobj hints (Nat.le_trans hlen hn2) hr hF hb (fun H hO hS => hsp H a ns hlen hbits hO hS) fun H e s' => hCX w H s₁ e s'
end BH

set_option Elab.async false
set_option linter.all false
set_option maxRecDepth 100000
set_option maxHeartbeats 2000000
/-! ## The layer of this work: union rules, steps on heaps, data (own text) -/
namespace BL
open PySem PySem.Spec PyProof.Rows L2

/-! ### steps of the heap: what stands as it was -/
def Imm : HO → Prop
  | .tup _ => True
  | .frz _ _ => True
  | _ => False
structure Kp (M : List Addr) (H H' : Hp) : Prop where
  keep : ∀ b o, b ∉ M → H b = some o → H' b = some o
  imm : ∀ b o, Imm o → H b = some o → H' b = some o
  trk : ∀ b o, H b = some o → ∃ o', H' b = some o'
theorem Kp.refl (M : List Addr) (H : Hp) : Kp M H H := ⟨fun _ _ _ h => h, fun _ _ _ h => h, fun _ o h => ⟨o, h⟩⟩
theorem Kp.fresh {M H H' b} (e : Kp M H H') (h : H' b = none) : H b = none := by
  cases q : H b with
  | none => rfl
  | some o =>
    obtain ⟨o', q'⟩ := e.trk b o q
    rw [h] at q'
    cases q'
theorem Kp.new {M H p o} (h : H p = none) : Kp M H (upd H p o) :=
  ⟨fun b u _ e => by rw [upd_ne (ne_of_none e h)]; exact e, fun b u _ e => by rw [upd_ne (ne_of_none e h)]; exact e, fun b u e => ⟨u, by rw [upd_ne (ne_of_none e h)]; exact e⟩⟩
/-- from the beginning to now: what changed is named or was not there -/
theorem Kp.step {M M' H0 H H'} (a : Kp M H0 H) (b : Kp M' H H') (s : ∀ m ∈ M', m ∈ M ∨ H0 m = none) : Kp M H0 H' :=
  ⟨fun c o n e => b.keep c o (fun z => (s c z).elim n fun q => by rw [q] at e; cases e) (a.keep c o n e),
   fun c o i e => b.imm c o i (a.imm c o i e),
   fun c o e => let ⟨o', e'⟩ := a.trk c o e; b.trk c o' e'⟩
theorem Kp.weak {M M' H H'} (a : Kp M H H') (s : ∀ m ∈ M, m ∈ M' ∨ H m = none) : Kp M' H H' := Kp.step (Kp.refl M' H) a s
theorem Kp.nil {H H'} (a : Kp [] H H') : ∀ M, Kp M H H' := fun _ => a.weak fun _ h => nomatch h
theorem Kp.one {M p H H'} (a : Kp [p] H H') (s : p ∈ M ∨ H p = none) : Kp M H H' := a.weak fun m h => by
  rw [List.mem_singleton.mp h]
  exact s
/-! ### data: never changed -/
/-- a list that is not changed any more -/
def SqF (K : PySem.W.Frag) (H : Hp) (a : Addr) (xs : List V) : Prop :=
  (∃ o, H a = some (.frz o (.lst xs))) ∨
    ∃ (o : Obj) (its : Array Value) (n : Nat), K.lookup a = some o ∧ o.cls = .type "list" ∧ o.dict = none ∧ o.data = .seq its n ∧ its.size ≤ sizeLine ∧ Vals xs its.toList
theorem SqF.l {K H a xs} (h : SqF K H a xs) : SqL K H a xs := h.elim (fun h => .inl (.inr h)) .inr
theorem SqF.kp {K M H H' a xs} (e : Kp M H H') (h : SqF K H a xs) : SqF K H' a xs := h.elim (fun ⟨o, h⟩ => .inl ⟨o, e.imm _ _ trivial h⟩) .inr
theorem SqT.kp {K M H H' a xs} (e : Kp M H H') (h : SqT K H a xs) : SqT K H' a xs := by
  rcases h with (h | ⟨o, h⟩) | h
  · exact .inl (.inl (e.imm _ _ trivial h))
  · exact .inl (.inr ⟨o, e.imm _ _ trivial h⟩)
  · exact .inr h
end BL

set_option Elab.async false
set_option linter.all false
set_option maxRecDepth 100000
set_option maxHeartbeats 2000000
/-! ## Union rules: one rule an operation, whatever the kinds (own text) -/
namespace BL
open PySem PySem.Spec PyProof.Rows L2
section
variable {X : Cx}
/-! ### list + list, of lists that may be read -/
theorem rd_lst {pins : List (Addr × Obj)} {s : Shared} {σ : L2.St} {H : Hp} {a : Addr} {xs : List V} (I : Inv X pins σ H s) (h : Rd H a (.lst xs)) :
    xs.length ≤ sizeLine ∧ ∃ (its : List Value) (n : Nat), Vals xs its ∧ s.heap.get? a = some { cls := .type "list", data := .seq its.toArray n } := h.ok I.hok
def rCatL : R2 := fun x y H Q => ∃ l b xs zs, x = .ref l ∧ y = .ref b ∧ Rd H l (.lst xs) ∧ Rd H b (.lst zs) ∧ xs.length + zs.length ≤ sizeLine ∧ ∀ p, H p = none → Q (.ref p) (upd H p (.lst (xs ++ zs)))
theorem op_catL : OpR X (binaryOp .Add) rCatL := by
  intro pins s σ H x y v u Q I rx ry h
  obtain ⟨l, b, xs, zs, rfl, rfl, hH, hB, hz, q⟩ := h
  cases rx
  cases ry
  obtain ⟨z, its, n, r, e⟩ := rd_lst I hH
  obtain ⟨z2, its2, n2, r2, e2⟩ := rd_lst I hB
  have hl := r.length
  have hl2 := r2.length
  refine PySem.P.add_list e e2 ?_ (by rw [List.size_toArray, List.size_toArray]; omega)
  have ea : its.toArray ++ its2.toArray = (its ++ its2).toArray := by simp
  rw [ea]
  exact ⟨.ref _, _, I.lnew (t' := s.toks) (r.append r2) (by rw [List.length_append]; omega), rfl, q _ I.fresh⟩
/-! ### + -/
def uAdd (K : PySem.W.Frag) : R2 := fun x y H Q => rI0 (fun i j => .int (i + j)) x y H Q ∨ (∃ i j, x = .str i ∧ y = .str j ∧ i.length + j.length ≤ sizeLine ∧ Q (.str (i ++ j)) H) ∨ rCatL x y H Q ∨ rCatA K x y H Q
theorem u_add : OpR X (binaryOp .Add) (uAdd X.K) := op_add.or (op_add_str.or (op_catL.or op_catA))
/-! ### * -/
def uMul (K : PySem.W.Frag) : R2 := fun x y H Q => rI CMul (fun i j => .int (i * j)) x y H Q ∨ rRep x y H Q
theorem u_mul : OpR X (binaryOp .Mult) (uMul X.K) := op_mul.or op_rep
def uSub : R2 := rI0 fun i j => .int (i - j)
theorem u_sub : OpR X (binaryOp .Sub) uSub := op_sub
def uFdiv : R2 := rI CDiv fun i j => .int (i / j)
theorem u_fdiv : OpR X (binaryOp .FloorDiv) uFdiv := op_fdiv
def uMod : R2 := rI (fun _ j => 0 < j) fun i j => .int (i % j)
theorem u_mod : OpR X (binaryOp .Mod) uMod := op_mod
def uPow : R2 := rI CPow fun i j => .int (i ^ j.toNat)
theorem u_pow : OpR X (binaryOp .Pow) uPow := op_pow
/-! ### comparisons -/
def uEq (K : PySem.W.Frag) : R2 := fun x y H Q => rEq x y H Q ∨ rEqD K x y H Q
theorem u_eq (hu : X.A.units + 64 < cLine) : OpR X (compareOp .Eq) (uEq X.K) := op_eq.or (op_eqD hu)
def uNe (K : PySem.W.Frag) : R2 := fun x y H Q => rNe x y H Q ∨ rNeD K x y H Q
theorem u_ne (hu : X.A.units + 64 < cLine) : OpR X (compareOp .NotEq) (uNe X.K) := op_ne.or (op_neD hu)
def uLt : R2 := rI0 fun i j => .bl (decide (i < j))
theorem u_lt : OpR X (compareOp .Lt) uLt := op_lt
def uLe : R2 := fun x y H Q => rI0 (fun i j => .bl (decide (i ≤ j))) x y H Q ∨ (∃ i j, x = .str i ∧ y = .str j ∧ Q (.bl (!decide (j.cps.toList < i.cps.toList))) H)
theorem u_le : OpR X (compareOp .LtE) uLe := op_le.or op_le_str
def uGt : R2 := rI0 fun i j => .bl (decide (j < i))
theorem u_gt : OpR X (compareOp .Gt) uGt := op_gt
def uGe : R2 := rI0 fun i j => .bl (decide (j ≤ i))
theorem u_ge : OpR X (compareOp .GtE) uGe := op_ge
def uIs : R2 := fun x y H Q => (y = .non ∧ Q (.bl (decide (x = .non))) H)
theorem u_is : OpR X (compareOp .Is) uIs := op_isN
def uIsnt : R2 := fun x y H Q => (y = .non ∧ Q (.bl (!decide (x = .non))) H)
theorem u_isnt : OpR X (compareOp .IsNot) uIsnt := op_notN
/-! ### subscripts -/
/-! ### what a for walks: a list or a tuple -/
def uLen (K : PySem.W.Frag) : List V → Hp → VK → Prop := fun xs H Q => ∃ x n, xs = [x] ∧ LenV K x H n ∧ Q (.int n) H
theorem u_len : CallR X (.builtin "len") (uLen X.K) := call_len
def uInt : List V → Hp → VK → Prop := fun xs H Q => (∃ i, xs = [.int i] ∧ Q (.int i) H) ∨ ∃ k, xs = [.bl k] ∧ Q (.int (if k then 1 else 0)) H
theorem u_int : CallR X (.type "int") uInt := call_int1
def uList (K : PySem.W.Frag) : List V → Hp → VK → Prop := fun xs H Q => ∃ p ys, xs = [.ref p] ∧ (SqL K H p ys ∨ SqT K H p ys) ∧ ∀ l, H l = none → Q (.ref l) (upd H l (.lst ys))
theorem u_list : CallR X (.type "list") (uList X.K) := call_list_of
def uTuple (K : PySem.W.Frag) : List V → Hp → VK → Prop := fun xs H Q => ∃ p ys, xs = [.ref p] ∧ ((SqL K H p ys ∧ ∀ l, H l = none → Q (.ref l) (upd H l (.tup ys))) ∨ (SqT K H p ys ∧ Q (.ref p) H))
theorem u_tuple : CallR X (.type "tuple") (uTuple X.K) := call_tuple_of
def uMin : List V → Hp → VK → Prop := fun xs H Q => ∃ i j, xs = [.int i, .int j] ∧ Q (.int (if j < i then j else i)) H
theorem u_min (hc : X.calm = true) : CallR X (.builtin "min") uMin := call_min2 hc
/-! ### isinstance of data and a built-in type -/
/-! ### freezing -/
/-! ### for over a list or a tuple -/
end
end BL

set_option Elab.async false
set_option linter.all false
set_option maxRecDepth 100000
set_option maxHeartbeats 2000000
/-! ## Readings, step by step (own text) -/
namespace BL
open PySem PySem.Spec PyProof.Rows L2
def Val (te : TE) (σ : L2.St) (H : Hp) (v : V) : Prop := ∀ Q : VK, Q v H → te σ H Q
section
variable {K : PySem.W.Frag} {σ : L2.St} {H : Hp} {Q : VK} {ta tb te : TE} {tt tu : TT} {x y v : V} {QB : Bool → Hp → Prop}
variable {nx bk ct : L2.St → Hp → Prop} {rt : VK} {t u : TS}
/-! ### statements -/
theorem g_name {i : Nat} {σ' : L2.St} {QS : L2.St → Hp → Prop} (e : σ.set i (some v) = σ') (h : QS σ' H) : gName i v σ H QS := by
  subst e
  exact h
/-! ### tests -/
/-! ### expressions -/
section
variable {tA : TA} {QL : List V → Hp → Prop}
def NewTup (Q : VK) (xs : List V) (H : Hp) : Prop := xs.length ≤ sizeLine ∧ ∀ p, H p = none → Q (.ref p) (upd H p (.tup xs))
theorem g_tup (h : tA σ H fun xs H1 => NewTup Q xs H1) : tTup tA σ H Q := h
/-! ### calls -/
/-! ### freezing -/
end
/-! ### operators -/
/-! ### subscripts -/
/-! ### stores -/
def LSet (QS : L2.St → Hp → Prop) (σ : L2.St) (o i v : V) (H : Hp) : Prop := rSetL o i v H fun H3 => QS σ H3
theorem g_sub {to ti : TE} {QS : L2.St → Hp → Prop} (h : to σ H fun o H1 => ti σ H1 fun i H2 => LSet QS σ o i v H2) : gSub to ti rSetL v σ H QS := h
end
end BL
namespace BL
open PySem PySem.Spec PyProof.Rows L2
/-! ### ways from heap to heap -/
end BL
namespace BL
open PySem PySem.Spec PyProof.Rows L2
/-! ### defs as they are called -/
section
variable {P : Program} {w : World} {K : PySem.W.Frag} {mg : Str → Option Value} {base : Heap}
/-- the def at f keeps its promise sp at level k, called by position -/
structure Cal (P : Program) (w : World) (K : PySem.W.Frag) (mg : Str → Option Value) (base : Heap) (CX : CXT) (k : Nat) (f : Addr) (ps : List Str) (sp : Sp) : Prop where
  ex : ∃ fd, FnOk P w K mg base CX k f fd ps sp ∧ Binds K fd ps []
  kp : PySem.W.keepIn K (.ref f) = true
theorem Cal.mono {CX k j f ps sp} (C : Cal P w K mg base CX k f ps sp) (h : k ≤ j) : Cal P w K mg base CX j f ps sp := let ⟨fd, F, b⟩ := C.ex; ⟨⟨fd, F.mono h, b⟩, C.kp⟩
theorem Cal.imp {CX k f ps} {sp sp' : Sp} (C : Cal P w K mg base CX k f ps sp) (h : ∀ vs H Q E, sp' vs H Q E → sp vs H Q E) : Cal P w K mg base CX k f ps sp' := let ⟨fd, F, b⟩ := C.ex; ⟨⟨fd, F.imp h, b⟩, C.kp⟩
variable {X : Cx} {CX : CXT} {k : Nat} {f : Addr} {ps : List Str} {sp : Sp} {x : Str} {p pos : Pos} {e : Expr} {es : List Expr} {t : TA}
/-- THE RULE for a def that lets no exception out -/
theorem Cal.of {xn qual : Str} {params : Arguments} {body : List Stmt} {scope : Scope} {fd : FuncData} {N : List Str} (F : FunD K xn qual params body scope [] [] f fd) (b : Binds K fd ps []) (S : FnScope N ps scope)
    (len : ∀ vs H Q E, sp vs H Q E → vs.length = ps.length)
    (hbody : ∀ (cdv : Value) (A : Around) (outer : List Env) (s : Shared) (H : Hp) (vs : List V) (Q : VK) (E : XK), Room k (A.deeper (envOfC qual scope s.heap.objs.size f cdv)) → sp vs H Q E →
      ∃ t, PSs (cxOf CX0 P w K mg base N qual scope f cdv A outer s H E).nox body t ∧ t ⟨fun _ H' => Q .non H', Q, fun _ _ => False, fun _ _ => False⟩ (start N vs) H) : Cal P w K mg base CX0 (k + 1) f ps sp := by
  refine ⟨⟨fd, F.ok S len fun cdv A outer s H vs Q E hr hsp => ?_, b⟩, F.kp⟩
  obtain ⟨t, h, q⟩ := hbody cdv A outer s H vs Q E hr hsp
  exact ⟨t, h.nox, q⟩
end
end BL
namespace BL
open PySem PySem.Spec PyProof.Rows L2
/-! ### the pool of a law's draws -/
end BL
namespace BL
open PySem PySem.Spec PyProof.Rows L2
end BL
namespace BL
open PySem PySem.Spec PyProof.Rows L2
end BL
namespace BL
open PySem PySem.Spec PyProof.Rows L2
end BL
namespace BL
open PySem PySem.Spec PyProof.Rows L2
section
variable {K : PySem.W.Frag} {H H' H0 H1 : Hp} {M : List Addr} {a b p q : Addr} {o : HO} {xs : List V} {v : V} {d : PyData} {ds : List PyData} {e : Int}
end
end BL
namespace BL
open PySem PySem.Spec PyProof.Rows L2
section
variable {K : PySem.W.Frag} {σ : L2.St} {H : Hp} {tt tu : TT} {te : TE} {nx bk ct : L2.St → Hp → Prop} {rt : VK} {t u : TS} {v : V} {a b : Bool}
end
end BL
namespace BL
open PySem PySem.Spec PyProof.Rows L2
section
variable {K : PySem.W.Frag} {σ : L2.St} {H : Hp} {Q : VK} {tA : TA} {te : TE} {tb : TS} {g : TG} {nx bk ct : L2.St → Hp → Prop} {rt : VK} {v x : V} {a : Addr} {xs : List V}
/-! ### for -/
/-! ### items by membership -/
/-! ### data at an index -/
end
end BL
namespace BL
open PySem PySem.Spec PyProof.Rows L2
theorem Cal.zero {P : Program} {w : World} {K : PySem.W.Frag} {mg : Str → Option Value} {base : Heap} {CX : CXT} {f : Addr} {fd : FuncData} {ps : List Str} {sp : Sp} (b : Binds K fd ps []) (kp : PySem.W.keepIn K (.ref f) = true) (h : ∀ vs H Q E, ¬ sp vs H Q E) : Cal P w K mg base CX 0 f ps sp :=
  ⟨⟨fd, ⟨fun vs H Q E q => (h vs H Q E q).elim, fun A outer s H args us vs Q E _ _ _ _ q => (h vs H Q E q).elim⟩, b⟩, kp⟩
end BL
namespace BL
open PySem PySem.Spec PyProof.Rows L2
end BL
namespace BL
open PySem PySem.Spec PyProof.Rows L2
theorem Fn.of {P : Program} {w : World} {K : PySem.W.Frag} {mg : Str → Option Value} {base : Heap} {k : Nat} {f : Addr} {ps : List Str} {sp : Sp} {xn qual : Str} {params : Arguments} {body : List Stmt} {scope : Scope} {fd : FuncData} {N : List Str} (F : FunD K xn qual params body scope [] [] f fd) (S : FnScope N ps scope)
    (len : ∀ vs H Q E, sp vs H Q E → vs.length = ps.length)
    (hbody : ∀ (cdv : Value) (A : Around) (outer : List Env) (s : Shared) (H : Hp) (vs : List V) (Q : VK) (E : XK), Room k (A.deeper (envOfC qual scope s.heap.objs.size f cdv)) → sp vs H Q E →
      ∃ t, PSs (cxOf CX0 P w K mg base N qual scope f cdv A outer s H E).nox body t ∧ t ⟨fun _ H' => Q .non H', Q, fun _ _ => False, fun _ _ => False⟩ (start N vs) H) : FnOk P w K mg base CX0 (k + 1) f fd ps sp := by
  refine F.ok S len fun cdv A outer s H vs Q E hr hsp => ?_
  obtain ⟨t, h, q⟩ := hbody cdv A outer s H vs Q E hr hsp
  exact ⟨t, h.nox, q⟩
theorem only_frz {K H a xs} (o : Only H) (h : SqL K H a xs) : SqF K H a xs := by
  rcases h with (h | ⟨u, h⟩) | h
  · rcases o a with z | ⟨u, ys, z⟩
    · rw [h] at z; cases z
    · rw [h] at z; cases z
  · exact .inl ⟨u, h⟩
  · exact .inr h
end BL

set_option Elab.async false
set_option linter.all false
set_option maxRecDepth 100000
set_option maxHeartbeats 2000000
/-! ## The mathematics: what the program computes, in plain Lean (own text) -/
namespace BL
open PySem PySem.Spec PyProof.Rows L2
/-! ### data -/
mutual
def dsame : PyData → PyData → Bool
  | .none, .none => true
  | .bool a, .bool b => decide (a = b)
  | .int a, .int b => decide (a = b)
  | .str a, .str b => decide (a = b)
  | .list as, .list bs => dsameL as bs
  | .tuple as, .tuple bs => dsameL as bs
  | _, _ => false
def dsameL : List PyData → List PyData → Bool
  | [], [] => true
  | a :: as, b :: bs => dsame a b && dsameL as bs
  | _, _ => false
end
mutual
/-- no dict within -/
def plain : PyData → Bool
  | .dict _ => false
  | .list ds => plainL ds
  | .tuple ds => plainL ds
  | _ => true
def plainL : List PyData → Bool
  | [] => true
  | d :: ds => plain d && plainL ds
end
mutual
def dep : PyData → Nat
  | .list ds => depL ds + 1
  | .tuple ds => depL ds + 1
  | _ => 0
def depL : List PyData → Nat
  | [] => 0
  | d :: ds => max (dep d) (depL ds)
end
/-! ### the operators -/
end BL
namespace BL
open PySem PySem.Spec PyProof.Rows L2
mutual
/-- every list and tuple within is short -/
def small : PyData → Bool
  | .list ds => decide (ds.length ≤ 100000) && smallL ds
  | .tuple ds => decide (ds.length ≤ 100000) && smallL ds
  | .dict _ => false
  | _ => true
def smallL : List PyData → Bool
  | [] => true
  | d :: ds => small d && smallL ds
end
end BL
namespace BL
open PySem PySem.Spec PyProof.Rows L2
end BL

set_option Elab.async false
set_option linter.all false
set_option maxRecDepth 100000
set_option maxHeartbeats 2000000
/-! ## Lists that grow, slices, comprehensions, instances (own text) -/
namespace BL
open PySem PySem.Spec PyProof.Rows L2
section
variable {K : PySem.W.Frag} {σ : L2.St} {H : Hp} {Q : VK} {tA : TA} {te ta tv : TE} {tb : TS} {g : TG} {nx bk ct : L2.St → Hp → Prop} {rt : VK} {v x y : V} {a : Addr} {xs : List V}
/-! ### methods of lists -/
/-! ### slices -/
def uSl (K : PySem.W.Frag) : V → Option Int → Option Int → Hp → VK → Prop := fun x lo hi H Q => rSlL K x lo hi H Q ∨ rSlA K x lo hi H Q ∨ rSlS x lo hi H Q
theorem u_sl {X : Cx} : SlR X (uSl X.K) := sl_list.or (sl_tupA.or sl_str)
/-! ### comprehensions -/
/-! ### instances -/
def LFld (K : PySem.W.Frag) (f : Str) (Q : VK) (x : V) (H : Hp) : Prop := ∃ a C dx fs v, x = .ref a ∧ H a = some (.ins C dx fs) ∧ Cls K C ∧ NoAttr K C f ∧ fs.lookup f = some v ∧ Q v H
theorem g_fld {f : Str} (h : ta σ H fun x H1 => LFld K f Q x H1) : tFld K ta f σ H Q := h
end
section
variable {X : Cx} {CX : CXT} {k : Nat} {f C : Addr} {ps : List Str} {sp : Sp} {x m : Str} {p pos apos : Pos} {e o : Expr} {es : List Expr} {ta : TE} {t : TA}
end
end BL
namespace BL
open PySem PySem.Spec PyProof.Rows L2
/-! ### the same rules, the written part named -/
section
variable {X : Cx} {K : PySem.W.Frag} {e a b c : Expr} {es : List Expr} {te ta tb : TE} {t : TA} {f : Str} {p pos apos : Pos} {tg l : Expr}
theorem k_add (K : PySem.W.Frag) (h : X.K = K := by rfl) : OpR X (binaryOp .Add) (uAdd K) := by subst h; exact u_add
theorem k_mul (K : PySem.W.Frag) (h : X.K = K := by rfl) : OpR X (binaryOp .Mult) (uMul K) := by subst h; exact u_mul
theorem k_eq (K : PySem.W.Frag) (hu : X.A.units + 64 < cLine) (h : X.K = K := by rfl) : OpR X (compareOp .Eq) (uEq K) := by subst h; exact u_eq hu
theorem k_ne (K : PySem.W.Frag) (hu : X.A.units + 64 < cLine) (h : X.K = K := by rfl) : OpR X (compareOp .NotEq) (uNe K) := by subst h; exact u_ne hu
theorem k_len (K : PySem.W.Frag) (h : X.K = K := by rfl) : CallR X (.builtin "len") (uLen K) := by subst h; exact u_len
theorem k_list (K : PySem.W.Frag) (h : X.K = K := by rfl) : CallR X (.type "list") (uList K) := by subst h; exact u_list
theorem k_tuple (K : PySem.W.Frag) (h : X.K = K := by rfl) : CallR X (.type "tuple") (uTuple K) := by subst h; exact u_tuple
end
end BL
namespace BL
open PySem PySem.Spec PyProof.Rows L2
section
variable {K : PySem.W.Frag} {H H' H0 H1 : Hp} {M : List Addr} {a b p q r : Addr} {o : HO} {e : Int}
end
end BL
namespace BL
open PySem PySem.Spec PyProof.Rows L2
section
variable {α : Type} {x0 x1 x2 x3 x4 x5 x6 x7 x8 x9 x10 : α} {xs : List α}
end
end BL
namespace BL
open PySem PySem.Spec PyProof.Rows L2
end BL
namespace BL
open PySem PySem.Spec PyProof.Rows L2
end BL
namespace BL
open PySem PySem.Spec PyProof.Rows L2
section
variable {K : PySem.W.Frag} {σ : L2.St} {H : Hp} {Q : VK} {tA : TA} {tb : TS} {g : TG} {nx bk ct : L2.St → Hp → Prop} {rt : VK} {v x : V} {a : Addr} {xs : List V} {QS : L2.St → Hp → Prop}
/-! ### tuple targets -/
/-! ### enumerate -/
end
end BL

set_option Elab.async false
set_option linter.all false
set_option maxRecDepth 100000
set_option maxHeartbeats 2000000
/-! ## Interfaces' rows, events, as data (own text) -/
namespace BL
open PySem PySem.Spec PyProof.Rows L2
abbrev IRow := Int × List (Int × Int)
/-- one component's row, the exports ex known -/
structure RowOk (ex : List Int) (k : Nat) (r : IRow) : Prop where
  e : ex[k]? = some r.1
  len : r.2.length ≤ 5
  nd : r.2.Nodup
  ok : ∀ q ∈ r.2, q.1 ≠ k ∧ 0 ≤ q.1 ∧ 0 ≤ q.2 ∧ ∃ x, ex[q.1.toNat]? = some x ∧ q.2 < x
structure RowsOk (m : Int) (rs : List IRow) : Prop where
  len0 : 1 ≤ rs.length
  len1 : (rs.length : Int) ≤ m
  ex : ∀ r ∈ rs, 1 ≤ r.1 ∧ r.1 ≤ 3
  row : ∀ k r, rs[k]? = some r → RowOk (rs.map (·.1)) k r
end BL
namespace BL
open PySem PySem.Spec PyProof.Rows L2
end BL
namespace BL
open PySem PySem.Spec PyProof.Rows L2
/-! ### events -/
inductive Ev where
  | call (f t p w : Int)
  | ret (f t w : Int)
  | fin (w : Int)
  deriving DecidableEq
def Ev.kind : Ev → Str
  | .call .. => "call"
  | .ret .. => "return"
  | .fin .. => "end"
/-- the current component and the waiting ones, the last one first -/
abbrev Who := Option Int × List Int
end BL
namespace BL
open PySem PySem.Spec PyProof.Rows L2
theorem map_some {α β : Type} {f : α → β} {xs : List α} {i : Nat} {d : β} (h : (xs.map f)[i]? = some d) : ∃ r, xs[i]? = some r ∧ f r = d := by
  rw [List.getElem?_map] at h
  cases q : xs[i]? with
  | none => rw [q] at h; cases h
  | some r => rw [q] at h; exact ⟨r, rfl, by simpa using h⟩
theorem RowsOk.imp {m rs} (ho : RowsOk m rs) {c : Nat} {r : IRow} (h : rs[c]? = some r) {q : Int × Int} (hq : q ∈ r.2) : 0 ≤ q.1 ∧ q.1 < rs.length ∧ 0 ≤ q.2 ∧ q.1 ≠ c := by
  obtain ⟨h1, h2, h3, x, hx, h4⟩ := (ho.row _ _ h).ok q hq
  have := (List.getElem?_eq_some_iff.mp hx).1
  simp at this
  exact ⟨h2, by omega, h3, h1⟩
end BL
namespace BL
open PySem PySem.Spec PyProof.Rows L2
end BL
namespace BL
open PySem PySem.Spec PyProof.Rows L2
/-! ### policies -/
end BL
namespace BL
open PySem PySem.Spec PyProof.Rows L2
end BL
namespace BL
open PySem PySem.Spec PyProof.Rows L2
end BL
namespace BL
open PySem PySem.Spec PyProof.Rows L2
mutual
def noB : PyData → Bool
  | .bool _ => false
  | .dict _ => false
  | .list ds => noBL ds
  | .tuple ds => noBL ds
  | _ => true
def noBL : List PyData → Bool
  | [] => true
  | d :: ds => noB d && noBL ds
end
mutual
theorem eqv_dsame : ∀ a b : PyData, noB a = true → noB b = true → PyData.eqv a b = dsame a b
  | .none, b, _, hb => by cases b <;> simp [PyData.eqv, dsame]
  | .bool _, _, h, _ => by simp [noB] at h
  | .int _, b, _, hb => by cases b <;> simp_all [PyData.eqv, dsame, noB] <;> rfl
  | .str _, b, _, hb => by cases b <;> simp_all [PyData.eqv, dsame, noB] <;> rfl
  | .list as, b, h, hb => by
    cases b with
    | list bs =>
      simp only [PyData.eqv, dsame]
      exact eqvAll_dsame as bs (by simpa [noB] using h) (by simpa [noB] using hb)
    | _ => simp_all [PyData.eqv, dsame, noB]
  | .tuple as, b, h, hb => by
    cases b with
    | tuple bs =>
      simp only [PyData.eqv, dsame]
      exact eqvAll_dsame as bs (by simpa [noB] using h) (by simpa [noB] using hb)
    | _ => simp_all [PyData.eqv, dsame, noB]
  | .dict _, _, h, _ => by simp [noB] at h
theorem eqvAll_dsame : ∀ as bs : List PyData, noBL as = true → noBL bs = true → PyData.eqvAll as bs = dsameL as bs
  | [], [], _, _ => rfl
  | [], _ :: _, _, _ => rfl
  | _ :: _, [], _, _ => rfl
  | a :: as, b :: bs, h, hb => by
    simp only [noBL, Bool.and_eq_true] at h hb
    simp only [PyData.eqvAll, dsameL]
    rw [eqv_dsame a b h.1 hb.1, eqvAll_dsame as bs h.2 hb.2]
end
theorem shaped_of {d : PyData} (h1 : PyData.canLay0 d = true) (h2 : PyData.depth d ≤ 64) : SeqAt.shaped d = true := by
  unfold SeqAt.shaped
  rw [h1, decide_eq_true h2]
  rfl
end BL
namespace BL
open PySem PySem.Spec PyProof.Rows L2
end BL
namespace BL
open PySem PySem.Spec PyProof.Rows L2
mutual
/-- no dict, no truth value, plain texts -/
def good : PyData → Bool
  | .bool _ => false
  | .dict _ => false
  | .str s => PyData.strOk s
  | .list ds => goodL ds
  | .tuple ds => goodL ds
  | _ => true
def goodL : List PyData → Bool
  | [] => true
  | d :: ds => good d && goodL ds
end
mutual
theorem good_lay : ∀ d, good d = true → PyData.canLay0 d = true
  | .none, _ => rfl
  | .bool _, h => by simp [good] at h
  | .int _, _ => rfl
  | .str s, h => by simpa [good, PyData.canLay0] using h
  | .list ds, h => by simp only [PyData.canLay0]; exact goodL_lay ds (by simpa [good] using h)
  | .tuple ds, h => by simp only [PyData.canLay0]; exact goodL_lay ds (by simpa [good] using h)
  | .dict _, h => by simp [good] at h
theorem goodL_lay : ∀ ds, goodL ds = true → PyData.canLayAll0 ds = true
  | [], _ => rfl
  | d :: ds, h => by
    simp only [goodL, Bool.and_eq_true] at h
    simp only [PyData.canLayAll0, Bool.and_eq_true]
    exact ⟨good_lay d h.1, goodL_lay ds h.2⟩
end
mutual
theorem good_noB : ∀ d, good d = true → noB d = true
  | .none, _ => rfl
  | .bool _, h => by simp [good] at h
  | .int _, _ => rfl
  | .str s, h => rfl
  | .list ds, h => by simp only [noB]; exact goodL_noB ds (by simpa [good] using h)
  | .tuple ds, h => by simp only [noB]; exact goodL_noB ds (by simpa [good] using h)
  | .dict _, h => by simp [good] at h
theorem goodL_noB : ∀ ds, goodL ds = true → noBL ds = true
  | [], _ => rfl
  | d :: ds, h => by
    simp only [goodL, Bool.and_eq_true] at h
    simp only [noBL, Bool.and_eq_true]
    exact ⟨good_noB d h.1, goodL_noB ds h.2⟩
end
end BL

set_option Elab.async false
set_option linter.all false
set_option maxRecDepth 100000
set_option maxHeartbeats 2000000
/-! ## own exceptions over an own class over ValueError: super().__init__(text); self.f = f (own text) -/
namespace PySem
namespace BadX
open PySem.W PySem.Calls PyProof.Rows PySem.HandSPX
/-- what the written part says of the class at C and of its __init__ at fI -/
structure BadTxt (P : Program) (K : Frag) (mg : Str → Option Value) (x f : Str) (C fI : Addr) : Prop where
  ff : f = "at" ∨ f = "what"
  gC : mg x = some (.ref C)
  cls : ∃ nm q N bs bm sn sub ab col dd k0 k1 k2 k3 k5, K.lookup C = some (excClassObj nm q C N bs bm true sn sub ab col dd k0 k1 k2 k3 k5 "ValueError.__new__") ∧ refsVE bm = true
  sa : findIn K (.ref C) "__setattr__" = some (some (.builtin "object.__setattr__"))
  ga : findIn K (.ref C) "__getattribute__" = some (some (.builtin "BaseException.__getattribute__"))
  gg : findIn K (.ref C) "__getattr__" = some none
  noN : findIn K (.ref C) f = some none
  iC : findIn K (.ref C) "__init__" = some (some (.ref fI))
  tC : typeIn K (.ref fI) = some (.type "function")
  kC : keepIn K (.ref C) = true
  exC : subIn K (.ref C) (.type "BaseException") = some true
  tyC : typeIn K (.ref C) = some (.type "type")
  hdC : hasDictIn K C = true
  sup : mg "super" = none
  opq : nsIn K cStatics "thirdparty.any" = some none
  ssi : ks_superIn K C C "__init__" = some (some (.builtin "ValueError.__init__"))
  sVE : subIn K (.ref C) (.type "ValueError") = some true
  slf : mroIn K C (.ref C) = some true
  top : (P.main.scope.names.lookup ("super" : Str)).isSome = false
  fn : ∃ (oc : Value) (od : Option Addr) (qual txt : Str) (params : Arguments) (scope : Scope) (kV doc pm : Value) (an : Option Addr) (cda : Addr) (ct : Value) (osl : Array (Option Value)) (cc : Addr) (p0 p1 p2 p3 p4 p5 q0 q1 q2 q3 : Pos) (j : Nat) (a0 a1 : Arg) (ccl : Value) (cdd : Option Addr) (vs : Array Value) (ccs : Array (Option Value)) (file : Str) (tf : Tok) (cl : Value) (cld : Option Addr) (csl : Array (Option Value)),
    K.lookup fI = some ⟨oc, od, .func (ksFn "__init__" qual params [.Expr (.Call (.Attribute (.Call (.Name "super" p0) [] [] p1) "__init__" p2) [.Constant (.str txt) j p3] [] p4) p5, .Assign [.Attribute (.Name "self" q0) f q1] (.Name f q2) q3] scope .none kV doc pm an (.ref cda) ct cc), osl⟩ ∧
    (p2.endLine == p4.line) = true ∧ codeIn K (.ref cda) qual = true ∧ params = { posonlyargs := [], args := [a0, a1], vararg := none, kwonlyargs := [], kw_defaults := [], kwarg := none, defaults := [] } ∧ a0.arg = "self" ∧ a1.arg = f ∧
    scope.kind = .function ∧ scope.isCoroutine = false ∧ scope.isGenerator = false ∧ (∀ x ∈ scope.names, x.2 ≠ .cell) ∧ scope.names.lookup ("self" : Str) = some .local ∧ scope.names.lookup f = some .local ∧
    scope.names.lookup ("super" : Str) = some .globalImplicit ∧ scope.names.lookup ("__class__" : Str) = some .free ∧
    K.lookup cda = some ⟨ccl, cdd, .fields vs, ccs⟩ ∧ vs[2]? = some (.str file tf) ∧ ((P.main.file : Str) == file) = true ∧
    K.lookup cc = some ⟨cl, cld, .cell (some (.ref C)), csl⟩
theorem one_size (v : Value) : [v].length ≤ sizeLine := by
  rw [sizeLine_eq]
  exact (by decide : 1 ≤ 16777216)
/-- what __init__ leaves of a fresh exception at x -/
structure InitEnd (h h' : Heap) (f : Str) (x C dx t1 : Addr) (v : Value) : Prop where
  keep : ∀ b o, b ≠ x → h.get? b = some o → h'.get? b = some o
  obj : h'.get? x = some { cls := .ref C, dict := some dx, data := .fields #[.ref t1, .none, .none, .none, .bool false, .none] }
  dbig : h.objs.size ≤ dx
  dne : dx ≠ x
  ns : h'.Ns1 dx (fun y => if y = f then some v else none)
section
variable {prog : Program} {w : World} {A : Around} {E : Value → Shared → Prop} {h : Heap} {g : Array GenState} {d : Drawn} {t : Nat} {os : OsState}
/-- ValueError.__init__ bound to the exception at e, called -/
theorem call_mw {nm q : Str} {C N : Addr} {bs bm : List Value} {hdct : Bool} {sn : List Str} {sub : List Value} {ab : Bool} {col : Option Bool} {dd : Option Addr} {k0 k1 k2 k3 k5 : Option Value} {u e t0 : Addr} {rest : List Value} {Q : Value → Shared → Prop}
    (hC : h.get? C = some (excClassObj nm q C N bs bm hdct sn sub ab col dd k0 k1 k2 k3 k5 "ValueError.__new__")) (he : h.get? e = some (HandSPX.excO C t0)) (hu : h.get? u = some (kxs_mw "ValueError.__init__" e)) (hrest : rest.length ≤ sizeLine)
    (hq : ∀ h' t1, (∀ b o, b ≠ e → h.get? b = some o → h'.get? b = some o) → h'.get? e = some (HandSPX.excO C t1) → Q .none ⟨h', g, d, t, os⟩) :
    wpAny (model prog w) A (call (.ref u) rest) Q E ⟨h, g, d, t, os⟩ := by
  refine wpAny_call (codeAny_of_tree ?_)
  show wpAny _ A.in1 (callAny (.ref u) ⟨rest, []⟩) _ _ _
  simp only [callAny]
  refine wpAny_bind (wpAny_load hu ?_)
  simp only [kxs_mw, show (Value.type "method-wrapper" == Value.type "method" || Value.type "method-wrapper" == Value.type "builtin_function_or_method" || Value.type "method-wrapper" == Value.type "method-wrapper") = true by decide, if_true]
  refine KFB.if_so (by decide) ?_
  refine wpAny_bind (check_bound_init F.excBase_ValueError.toExcCallFacts hC he rfl ?_)
  refine wpAny_bind (wpAny_pure (wpAny_pure ?_))
  refine ⟨plainId_quiet F.excBase_ValueError.init.plain _, codeAny_builtin F.excBase_ValueError.initEntry ?_⟩
  exact exc_init_tree (cls := .ref C) (t0 := t0) (dv := none) (c2 := .none) (c3 := .none) (b4 := .bool false) he hrest fun h' k e' _ => hq h' h.objs.size k e'
end
section
variable {prog : Program} {w : World} {A : Around} {E : Value → Shared → Prop} {R : Result → Shared → Prop} {s : Shared} {K : Frag} {mg : Str → Option Value} {x f : Str} {C fI : Addr} {base : Heap}
theorem call_he {o ea : Expr} {name : Str} {p2 p4 : Pos} {env : Env} (hp : (p2.endLine == p4.line) = true) (hs : starEach [ea] env = [(false, eval ea env)]) :
    eval (.Call (.Attribute o name p2) [ea] [] p4) env = (do
      let ov ← attributeBase o name env (eval o env)
      standAt p2.atName
      let (f, first) ← holding [ov] (getMethod ov name (do return (← importBound o env).getD true))
      callWith p4 f first (backTo p4 (starEach [ea] env)) []) := by
  show (do
    let ov ← attributeBase o name env (eval o env)
    standAt p2.atName
    methodCall o name p2 p4 env ov 1 (backTo p4 (starEach [ea] env)) (backToKw p4 (keywordEach [] env))) = _
  rw [hs]
  have e1 : methodCallForm 1 (backTo p4 [(false, eval ea env)]) (backToKw p4 (keywordEach [] env)) = true := by rfl
  simp only [methodCall, e1, methodCallPos, hp, calleeOf, Bool.not_true, Bool.false_or, if_true, pure_bind]
  rfl
theorem bad_init (T : BadTxt prog K mg x f C fI) (M : L2.Mod K mg base) {e t0 : Addr} {v : Value} (bk : ∀ b o, base.get? b = some o → s.heap.get? b = some o) (hne : base.get? e = none) (hx : s.heap.get? e = some (excO C t0)) (hroom : A.depth < recursionLimit)
    (hq : ∀ h' tk dx t1, InitEnd s.heap h' f e C dx t1 v → R (.ok (.ret .none)) { s with heap := h', toks := tk }) :
    codeAny (model prog w) A (.call (.ref fI) ⟨[.ref e, v], []⟩) R s := by
  obtain ⟨oc, od, qual, txt, params, scope, kV, doc, pm, an, cda, ct, osl, cc, p0, p1, p2, p3, p4, p5, q0, q1, q2, q3, j, a0, a1, ccl, cdd, vs, ccs, file, tf, cl, cld, csl, ho, hpp, hcd, hpar, ha0, ha1, hk, hco, hgen, hcell, hsf, hff, hks, hkc, hcode, hvs, hfile, hcel⟩ := T.fn
  obtain ⟨nm, q, N, bs, bm, sn, sub, ab, col, dd, k0, k1, k2, k3, k5, hC, hbm⟩ := T.cls
  have hcl : clsIn K C = some { name := nm, bases := bs, mro := .ref C :: bm, ns := N, qualname := q, hasDict := true, slotNames := sn, subclasses := sub, abstract := ab, collection := col, hasDel := false } := by unfold clsIn; rw [hC] <;> rfl
  have X : K.In s.heap := M.kin.keeps bk
  have hlim := M.nolimit.keeps bk
  have hco' := hco
  obtain ⟨kind, names, isg, isc, more⟩ := scope
  simp only at hk hco hgen hcell hsf hff hks hkc
  subst hk hco hgen
  subst hpar
  obtain ⟨n0, an0, ps0⟩ := a0
  obtain ⟨n1, an1, ps1⟩ := a1
  simp only at ha0 ha1
  subst ha0 ha1
  have hbind : BindsTo s (ksFn "__init__" qual { posonlyargs := [], args := [⟨"self", an0, ps0⟩, ⟨n1, an1, ps1⟩], vararg := none, kwonlyargs := [], kw_defaults := [], kwarg := none, defaults := [] } [.Expr (.Call (.Attribute (.Call (.Name "super" p0) [] [] p1) "__init__" p2) [.Constant (.str txt) j p3] [] p4) p5, .Assign [.Attribute (.Name "self" q0) n1 q1] (.Name n1 q2) q3] ⟨.function, names, false, false, more⟩ .none kV doc pm an (.ref cda) ct cc) ⟨[.ref e, v], []⟩ [("self", .ref e), (n1, v)] := by
    rcases T.ff with h | h <;> (rw [h]; exact BindsTo.of_eq (by first | rfl | with_unfolding_all rfl))
  refine ks_codeAny_call_defAt hroom (X _ _ ho) rfl hlim (codeRec_of X hcd) rfl hbind hcell (fun y hy => ?_) (fun h₀ hns k => ?_) rfl rfl rfl
  · rcases List.mem_cons.mp hy with rfl | hy
    · exact hsf
    · rcases List.mem_cons.mp hy with rfl | hy
      · exact hff
      · exact (List.not_mem_nil hy).elim
  have hself : (List.lookup ("self" : Str) [((n1 : Str), v), ("self", Value.ref e)]) = some (.ref e) := by
    rcases T.ff with h | h <;> (rw [h]; rfl)
  have hval : (List.lookup n1 [((n1 : Str), v), ("self", Value.ref e)]) = some v := by
    simp [List.lookup]
  have X₁ : K.In h₀ := X.keeps k
  have hx₁ := k _ _ hx
  refine ks_wpAt_execs_cons (ks_wpAt_Expr_any (ks_wpAt_MethodCall ?_ (call_he hpp rfl)))
  refine ks_wpAt_super_base (env := ksEnv qual ⟨.function, names, false, false, more⟩ s.heap.objs.size fI (.ref cda) cc) hks hkc (by decide) rfl (X₁ _ _ ho) rfl rfl rfl (X₁ _ _ hcode) rfl hvs hfile T.top ?_
  obtain ⟨mb, b1, b2⟩ := M.blt
  have bk₁ : ∀ b o, base.get? b = some o → h₀.get? b = some o := fun b o e => k b o (bk b o e)
  refine ks_loadName_global rfl hks (loadGlobal_builtin (env := ksEnv qual ⟨.function, names, false, false, more⟩ s.heap.objs.size fI (.ref cda) cc) (M.glob.keeps bk₁) T.sup (b1.keeps bk₁) ((b2 _ (by decide)).trans (show bootBuiltins "super" = some (.type "super") by kernel_rfl)) ⟨rfl, ?_⟩)
  refine wpAny_loadName_free rfl hkc rfl ⟨_, X₁ _ _ hcel, rfl⟩ ?_
  refine wpAny_loadName_local rfl hsf hns hself ?_
  refine ks_wpAny_isType_cls (X₁ _ _ hC) rfl ⟨rfl, ?_⟩
  refine ks_wpAny_call_super (X₁ _ _ hC) rfl hx₁ rfl (fun c z => by cases z) (looks_mroIn X₁ T.slf) (fun h₂ e₂ k₂ => ?_)
  have X₂ : K.In h₂ := X₁.keeps k₂
  have hI : Looks (model prog w) h₂ (isInstance (.ref e) (.type "ValueError")) true := (InstAt.type (M := model prog w) (C := C) (od := none) ⟨k₂ _ _ hx₁, rfl, rfl, trivial⟩).andThen (looks_subIn X₂ T.sVE)
  have heC : e ≠ C := by
    rintro rfl
    have z := X _ _ hC
    rw [hx] at z
    cases z
  have hssi : alongIn K "__init__" (((Value.ref C :: bm).dropWhile (· != .ref C)).drop 1) = some (some (.builtin "ValueError.__init__")) := by
    have z := T.ssi
    unfold ks_superIn at z
    rw [hcl] at z
    exact z
  refine kxs_getMethod kxs_ValueError e₂ (looks_opaque X₂ T.opq) (l₀ := .ref C :: bm) ((looks_clsIn X₂ hcl).andThen .now) rfl X₂ hssi hI heC (by decide) ?_
  show wpAny _ _ (callWith p4 (.ref h₂.objs.size) [] ((false, eval (.Constant (.str txt) j p3) (ksEnv qual ⟨.function, names, false, false, more⟩ s.heap.objs.size fI (.ref cda) cc)) :: []) []) _ _ _
  refine kxs_callWith (i := "ValueError.__init__") (x := e) rfl (evalArgs_plain ?_)
  refine Calls.spliced_cons (Calls.Constant_str ?_)
  refine Calls.spliced_nil ?_
  have k₃ : ∀ b o, h₂.get? b = some o → (h₂.push (kxs_mw "ValueError.__init__" e)).get? b = some o := fun b o z => Heap.get?_push_of_some _ z
  have hu : (h₂.push (kxs_mw "ValueError.__init__" e)).get? h₂.objs.size = some (kxs_mw "ValueError.__init__" e) := Heap.get?_push_at rfl rfl
  refine ⟨hu, ?_⟩
  refine call_mw (k₃ _ _ (X₂ _ _ hC)) (k₃ _ _ (k₂ _ _ hx₁)) hu (one_size _) fun h₄ t1 k₄ e₄ => ?_
  have L0 : s.heap.objs.size ≠ e := Nat.ne_of_gt (Heap.lt_size hx)
  have kk : ∀ b o, b ≠ e → h₀.get? b = some o → h₄.get? b = some o := fun b o hb z => k₄ b o hb (k₃ _ _ (k₂ _ _ z))
  have hns4 : h₄.Ns s.heap.objs.size (fun x => List.lookup x [((n1 : Str), v), ("self", Value.ref e)]) := by
    obtain ⟨oL, es, ep, e1, r⟩ := hns
    exact ⟨oL, es, ep, kk _ _ L0 e1, r⟩
  have X₄ : K.In h₄ := fun a o z => by
    have z2 := X₂ a o z
    refine k₄ a o (fun q => ?_) (k₃ _ _ z2)
    have z4 := M.kin a o z
    rw [q, hne] at z4
    cases z4
  refine wpAt_of_wpAny (wpAny_execs_cons (plainObj_wpAny_Assign_Attribute ?_))
  refine wpAny_Name (wpAny_loadName_local rfl hff hns4 hval ?_) ?_
  refine wpAny_Name (wpAny_loadName_local rfl hsf hns4 hself ?_) (by decide)
  refine set_plain X₄ (ox := excO C t1) (od := none) ⟨e₄, rfl, rfl, trivial⟩ T.sa ?_
  refine exc_osa X₄ e₄ hcl (show refsVE (.ref C :: bm) = true from hbm) rfl T.noN (fun h₅ tk₅ dx k₅ dn dne hx₅ hn₅ => ?_)
  show wpAny _ _ (execs _ _) _ _ _
  refine wpAny_execs_nil (hq h₅ tk₅ dx t1 ⟨fun b o hb z => k₅ b o hb (kk b o hb (k b o z)), hx₅, ?_, dne, hn₅⟩)
  · exact Nat.le_of_lt (Nat.lt_of_lt_of_le hns4.lt dn)
  · rcases T.ff with h | h <;> (rw [h]; decide)
/-- a made one -/
structure OwnMade (h h' : Heap) (f : Str) (e C d : Addr) (v : Value) : Prop where
  keep : ∀ b o, h.get? b = some o → h'.get? b = some o
  new : h.objs.size ≤ e
  obj : ∃ oe vs, h'.get? e = some oe ∧ oe.cls = .ref C ∧ oe.dict = some d ∧ oe.data = .fields vs ∧ vs[1]? = some .none
  dbig : h.objs.size ≤ d
  dne : d ≠ e
  ns : h'.Ns1 d (fun y => if y = f then some v else none)
theorem bad_made (T : BadTxt prog K mg x f C fI) (M : L2.Mod K mg base) {v : Value} (bk : ∀ b o, base.get? b = some o → s.heap.get? b = some o) (hroom : A.depth + 1 < recursionLimit)
    (hq : ∀ h' tk e d, OwnMade s.heap h' f e C d v → R (.ok (.ret (.ref e))) { s with heap := h', toks := tk }) :
    codeAny (model prog w) A (.call (.ref C) ⟨[v], []⟩) R s := by
  obtain ⟨nm, q, N, bs, bm, sn, sub, ab, col, dd, k0, k1, k2, k3, k5, hC, hbm⟩ := T.cls
  have X : K.In s.heap := M.kin.keeps bk
  obtain ⟨hp, g, dr, tk, os⟩ := s
  have k : ∀ b o, hp.get? b = some o → ((hp.push (kdv_tup [v])).push (excO C hp.objs.size)).get? b = some o := fun b o e => Heap.get?_push_of_some _ (Heap.get?_push_of_some _ e)
  have hget : ((hp.push (kdv_tup [v])).push (excO C hp.objs.size)).get? (hp.objs.size + 1) = some (excO C hp.objs.size) := by heap_get
  have hnx : base.get? (hp.objs.size + 1) = none := by
    cases e : base.get? (hp.objs.size + 1) with
    | none => rfl
    | some o =>
      have z : hp.get? (hp.objs.size + 1) = some o := bk _ _ e
      exact absurd (Nat.lt_of_succ_lt (Heap.lt_size z)) (Nat.lt_irrefl _)
  refine call_own F.excBase_ValueError (fun X => refsVE_contains X bm hbm) (X _ _ hC) (looks_findIn X T.iC) (fun self => bind_fn X self T.tC) (one_size v) ?_
  refine bad_init (s := ⟨(hp.push (kdv_tup [v])).push (excO C hp.objs.size), g, dr, tk, os⟩) T M (fun b o z => k b o (bk b o z)) hnx hget ?_ fun h' tk' dx t1 ⟨k', hx, dn, dne, hns⟩ => ?_
  · show A.depth + 1 < recursionLimit
    exact hroom
  · have old : ∀ b o, hp.get? b = some o → h'.get? b = some o := fun b o e => k' b o (Nat.ne_of_lt (Nat.lt_succ_of_lt (Heap.lt_size e))) (k b o e)
    have z : hp.objs.size + 1 + 1 ≤ dx := by
      first
        | (simpa only [Heap.size_push] using dn)
        | exact dn
        | (have q := dn; rw [Heap.size_push, Heap.size_push] at q; exact q)
    exact ⟨rfl, hq h' tk' (hp.objs.size + 1) dx ⟨old, Nat.le_succ _, ⟨_, _, hx, rfl, rfl, rfl, rfl⟩, Nat.le_trans (Nat.le_trans (Nat.le_succ _) (Nat.le_succ _)) z, dne, hns⟩⟩
end
end BadX
end PySem
namespace L2
open PySem PySem.Spec PyProof.Rows
theorem relO_bad {g : Str} {v : V} {v' : Value} (r : RelV v v') (f : Str) : RelO (List.lookup f [(g, v)]) (if f = g then some v' else none) := by
  by_cases hw : f = g
  · subst hw
    rw [if_pos rfl]
    have q : List.lookup f [(f, v)] = some v := by simp [List.lookup]
    rw [q]
    exact r
  · rw [if_neg hw]
    have qw : (f == g) = false := by simpa using hw
    have q2 : List.lookup f [(g, v)] = none := by simp [List.lookup, qw]
    rw [q2]
    trivial
section
variable {X : Cx} {x f : Str} {C fI : Addr}
/-- C(e), the own exception -/
def tMkBad (f : Str) (C : Addr) (ta : TA) : St → Hp → XK → Prop := fun σ H Q => ta σ H fun vs H1 => ∃ v, vs = [v] ∧ ∀ d, H1 d = none → Q (.ref C) (some d) (upd H1 d (.xd [(f, v)]))
theorem pmk_bad {a : Expr} {ta : TA} {p pos : Pos} {k : Nat} (T : PySem.BadX.BadTxt X.prog X.K X.mg x f C fI) (hr : Room k X.A) (ha : PA X [a] ta) (hg : Gl X x := by rfl) (hdb : (x == ("__debug__" : Str)) = false := by decide)
    (he : starEach (a :: []) X.env = (false, eval a X.env) :: starEach [] X.env := by rfl) (hpl : (backTo pos (starEach [] X.env)).any (·.1) = false := by rfl) :
    PMk X (.Call (.Name x p) [a] [] pos) (tMkBad f C ta) := by
  intro pins s σ H Q I h
  refine wpAny_Call_Name_kw (ld_glob I hg T.gC ?_ hdb)
  refine PySem.W.callWith_K (h₀ := X.base) I.ok.mod.kin T.kC (thn (ha.run pos pins s σ H _ I h) fun us s1 hh => ?_) he hpl
  obtain ⟨vs, H1, I1, r1, v, ev, q1⟩ := hh
  subst ev
  refine ⟨I1.kIn, ?_⟩
  cases r1 with
  | cons rv rn =>
    rename_i v' us'
    cases rn
    show wpAny _ _ (call (.ref C) [v']) _ _ _
    have bk := I1.bk
    obtain ⟨hp, g, dr, tk, os⟩ := s1
    refine wpAny_call (PySem.BadX.bad_made T I1.ok.mod bk (by have := hr.dp; omega) fun h' tk' e d M => ?_)
    show MkP X pins σ Q (.ref e) ⟨h', g, dr, tk', os⟩
    obtain ⟨oe, fv, hoe, hc, hd, hdat, h1⟩ := M.obj
    have hns := M.ns
    obtain ⟨G', g1, g2⟩ := restrict h' fun b => decide (b ≠ e)
    have gk : ∀ b, b ≠ e → G'.get? b = h'.get? b := fun b hb => g1 b (decide_eq_true hb)
    have ge : G'.get? e = none := g2 e (by simp)
    have old : ∀ b o, hp.get? b = some o → G'.get? b = some o := fun b o q => (gk b (Nat.ne_of_lt (Nat.lt_of_lt_of_le (Heap.lt_size q) M.new))).trans (M.keep b o q)
    have ob : ObjOk X.prog X.w (upd H1 d (.xd [(f, v)])) G' d (.xd [(f, v)]) :=
      ⟨_, hns.at (fun o q => (gk d M.dne).trans q), fun f' => relO_bad rv f'⟩
    have J : Inv X pins σ (upd H1 d (.xd [(f, v)])) ⟨G', g, dr, tk', os⟩ := I1.laid (t' := tk') old M.dbig ob
    refine ⟨e, oe, fv, ⟨G', g, dr, tk', os⟩, _, .ref C, some d, rfl, J, fun b o q => ?_, ge, hoe, ⟨hc, hd⟩, hdat, h1, ?_, rfl, I1.bare, raises_own T.exC T.tyC, q1 d (I1.hok.fresh M.dbig)⟩
    · by_cases hb : b = e
      · have q' : G'.get? b = some o := q
        rw [hb, ge] at q'; cases q'
      · exact (gk b hb).symm.trans q
    · rw [upd_ne (Ne.symm M.dne)]
      exact I1.hok.fresh M.new
/-- raise C(e) -/
def tRaiseBad (f : Str) (C : Addr) (W : WX) (ta : TA) : TS := fun _ σ H => tMkBad f C ta σ H fun cls d H' => W cls d σ H'
theorem ps_raiseBad {a : Expr} {ta : TA} {W : WX} {p pos pos2 : Pos} {k : Nat} (hc : X.calm = true) (T : PySem.BadX.BadTxt X.prog X.K X.mg x f C fI) (hr : Room k X.A) (tk : Takes X W) (ha : PA X [a] ta) (hg : Gl X x := by rfl) (hdb : (x == ("__debug__" : Str)) = false := by decide)
    (he : starEach (a :: []) X.env = (false, eval a X.env) :: starEach [] X.env := by rfl) (hpl : (backTo pos (starEach [] X.env)).any (·.1) = false := by rfl) :
    PS X (.Raise (some (.Call (.Name x p) [a] [] pos)) none pos2) (tRaiseBad f C W ta) := ps_raise hc tk (pmk_bad T hr ha hg hdb he hpl)
end
end L2

/-! ### the question -/
namespace BE
open PySem PySem.W PySem.Spec PyProof.Rows L2 He PySem.BadX
def o1 (a : Option (Option Value)) (s : String) : Bool := eqO a (some (some (.builtin s)))
def bodyB (f : Str) : FuncBody → Bool
  | .stmts [.Expr (.Call (.Attribute (.Call (.Name a _) [] [] _) i p2) [.Constant (.str _) _ _] [] p4) _, .Assign [.Attribute (.Name b _) g _] (.Name g2 _) _] =>
    decide (a = "super") && (decide (i = "__init__") && (decide (b = "self") && (decide (g = f) && (decide (g2 = f) && (p2.endLine == p4.line)))))
  | _ => false
theorem bodyB_ok {f : Str} {b : FuncBody} (h : bodyB f b = true) : ∃ (txt : Str) (j : Nat) (p0 p1 p2 p3 p4 p5 q0 q1 q2 q3 : Pos), b = .stmts [.Expr (.Call (.Attribute (.Call (.Name "super" p0) [] [] p1) "__init__" p2) [.Constant (.str txt) j p3] [] p4) p5, .Assign [.Attribute (.Name "self" q0) f q1] (.Name f q2) q3] ∧ (p2.endLine == p4.line) = true := by
  unfold bodyB at h
  split at h
  · simp only [Bool.and_eq_true, decide_eq_true_eq] at h
    obtain ⟨rfl, rfl, rfl, rfl, rfl, h⟩ := h
    exact ⟨_, _, _, _, _, _, _, _, _, _, _, _, rfl, h⟩
  · cases h
def parB (f : Str) : Arguments → Bool
  | ⟨[], [a0, a1], none, [], [], none, []⟩ => decide (a0.arg = "self") && decide (a1.arg = f)
  | _ => false
theorem parB_ok {f : Str} {p : Arguments} (h : parB f p = true) : ∃ a0 a1 : Arg, p = { posonlyargs := [], args := [a0, a1], vararg := none, kwonlyargs := [], kw_defaults := [], kwarg := none, defaults := [] } ∧ a0.arg = "self" ∧ a1.arg = f := by
  unfold parB at h
  split at h
  · simp only [Bool.and_eq_true, decide_eq_true_eq] at h
    exact ⟨_, _, rfl, h.1, h.2⟩
  · cases h
def scoB (f : Str) (sc : Scope) : Bool := decide (sc.kind = .function) && (!sc.isCoroutine && (!sc.isGenerator && (sc.names.all (fun y => !decide (y.2 = .cell)) && (decide (sc.names.lookup ("self" : Str) = some .local) && (decide (sc.names.lookup f = some .local) && (decide (sc.names.lookup ("super" : Str) = some .globalImplicit) && decide (sc.names.lookup ("__class__" : Str) = some .free)))))))
def strB (file : Str) : Option Value → Bool
  | some (.str fl _) => file == fl
  | _ => false
def codB (K : Frag) (file : Str) : Value → Bool
  | .ref cda => (match K.lookup cda with
    | some ⟨_, _, .fields vs, _⟩ => strB file vs[2]?
    | _ => false)
  | _ => false
theorem codB_ok {K : Frag} {file : Str} {v : Value} (h : codB K file v = true) : ∃ (cda : Addr) (ccl : Value) (cdd : Option Addr) (vs : Array Value) (ccs : Array (Option Value)) (fl : Str) (tf : Tok), v = .ref cda ∧ K.lookup cda = some ⟨ccl, cdd, .fields vs, ccs⟩ ∧ vs[2]? = some (.str fl tf) ∧ (file == fl) = true := by
  unfold codB at h
  split at h
  · split at h
    · rename_i h1
      unfold strB at h
      split at h
      · rename_i h2
        exact ⟨_, _, _, _, _, _, _, rfl, h1, h2, h⟩
      · cases h
    · cases h
  · cases h
def cloB (K : Frag) (C : Addr) : List (Str × Addr) → Bool
  | [(n, cc)] => decide (n = "__class__") && (match K.lookup cc with
    | some ⟨_, _, .cell (some (.ref D)), _⟩ => decide (D = C)
    | _ => false)
  | _ => false
theorem cloB_ok {K : Frag} {C : Addr} {l : List (Str × Addr)} (h : cloB K C l = true) : ∃ (cc : Addr) (cl : Value) (cld : Option Addr) (csl : Array (Option Value)), l = [(("__class__" : Str), cc)] ∧ K.lookup cc = some ⟨cl, cld, .cell (some (.ref C)), csl⟩ := by
  unfold cloB at h
  split at h
  · obtain ⟨h1, h2⟩ := ba h
    have h1 := of_decide_eq_true h1
    subst h1
    split at h2
    · rename_i h3
      have h2 := of_decide_eq_true h2
      subst h2
      exact ⟨_, _, _, _, rfl, h3⟩
    · cases h2
  · cases h
def noneB : Value → Bool
  | .none => true
  | _ => false
def funB (K : Frag) (file f : Str) (C fI : Addr) : Bool := match K.lookup fI with
  | some ⟨_, _, .func fd, _⟩ => decide (fd.name = "__init__") && (parB f fd.params && (bodyB f fd.body && (scoB f fd.scope && (decide (fd.globals = mainGlobals) && (cloB K C fd.closure && (noneB fd.defaults && (codeIn K fd.code fd.qualname && (codB K file fd.code && decide (fd.builtins = builtinsNs)))))))))
  | _ => false
def clsB (K : Frag) (C : Addr) : Bool := match K.lookup C with
  | some ⟨.type "type", _, .cls cd, sl⟩ => (match cd.mro, sl.toList with
    | .ref C' :: bm, [_, _, _, _, some (.builtin n), _] => C' == C && n == "ValueError.__new__" && !cd.hasDel && cd.hasDict && HandSPX.refsVE bm
    | _, _ => false)
  | _ => false
theorem clsB_ok {K : Frag} {C : Addr} (q : clsB K C = true) : ∃ nm qn N bs bm sn sub ab col dd k0 k1 k2 k3 k5, K.lookup C = some (excClassObj nm qn C N bs bm true sn sub ab col dd k0 k1 k2 k3 k5 "ValueError.__new__") ∧ HandSPX.refsVE bm = true := by
  unfold clsB at q
  split at q
  · rename_i dd cd sl ho
    split at q
    · rename_i C' bm k0 k1 k2 k3 n k5 hm hs
      simp only [Bool.and_eq_true, beq_iff_eq, Bool.not_eq_true'] at q
      obtain ⟨⟨⟨⟨rfl, rfl⟩, hdel⟩, hd⟩, ht⟩ := q
      obtain ⟨nm, bs, mro, ns, qn, hd', sn, sub, ab, col, del⟩ := cd
      dsimp only at hm hdel hd
      subst hm hdel hd
      have hsl : sl = #[k0, k1, k2, k3, some (.builtin "ValueError.__new__"), k5] := by
        obtain ⟨l⟩ := sl
        simp only at hs
        rw [hs]
      subst hsl
      exact ⟨_, _, _, _, _, _, _, _, _, _, _, _, _, _, _, ho, ht⟩
    · cases q
  · cases q
def obB (a : Option Bool) : Bool := match a with
  | some true => true
  | _ => false
theorem obB_ok {a : Option Bool} (h : obB a = true) : a = some true := by
  unfold obB at h
  split at h
  · rfl
  · cases h
def ovB (a : Option Value) (s : String) : Bool := match a with
  | some (.type t) => decide (t = s)
  | _ => false
theorem ovB_ok {a : Option Value} {s : String} (h : ovB a s = true) : a = some (.type s) := by
  unfold ovB at h
  split at h
  · rw [of_decide_eq_true h]
  · cases h
/-- the whole question: class x, its one field f -/
def badB (file : Str) (top : Bool) (x f : Str) (K : Frag) : Bool :=
  eqO (nsIn K mainGlobals x) (some (some (.ref (ga K x)))) && (clsB K (ga K x) && (o1 (findIn K (.ref (ga K x)) "__setattr__") "object.__setattr__" && (o1 (findIn K (.ref (ga K x)) "__getattribute__") "BaseException.__getattribute__" && (eqO (findIn K (.ref (ga K x)) "__getattr__") (some none) && (eqO (findIn K (.ref (ga K x)) f) (some none) &&
  (eqO (findIn K (.ref (ga K x)) "__init__") (some (some (.ref (fAd K (x, some "__init__"))))) && (ovB (typeIn K (.ref (fAd K (x, some "__init__")))) "function" && (keepIn K (.ref (ga K x)) && (obB (subIn K (.ref (ga K x)) (.type "BaseException")) && (ovB (typeIn K (.ref (ga K x))) "type" && (hasDictIn K (ga K x) &&
  (eqO (nsIn K mainGlobals "super") (some none) && (eqO (nsIn K cStatics "thirdparty.any") (some none) && (o1 (ks_superIn K (ga K x) (ga K x) "__init__") "ValueError.__init__" && (obB (subIn K (.ref (ga K x)) (.type "ValueError")) && (obB (mroIn K (ga K x) (.ref (ga K x))) && (!top && (decide (f = "at" ∨ f = "what") && funB K file f (ga K x) (fAd K (x, some "__init__"))))))))))))))))))))
theorem badB_ok {P : Program} {K : Frag} {mg : Str → Option Value} {h : Heap} {x f : Str} (X : K.In h) (G : h.Ns mainGlobals mg) (c : badB P.main.file (P.main.scope.names.lookup ("super" : Str)).isSome x f K = true) : BadTxt P K mg x f (ga K x) (fAd K (x, some "__init__")) := by
  unfold badB at c
  obtain ⟨c1, c⟩ := ba c
  obtain ⟨c2, c⟩ := ba c
  obtain ⟨c3, c⟩ := ba c
  obtain ⟨c4, c⟩ := ba c
  obtain ⟨c5, c⟩ := ba c
  obtain ⟨c6, c⟩ := ba c
  obtain ⟨c7, c⟩ := ba c
  obtain ⟨c8, c⟩ := ba c
  obtain ⟨c9, c⟩ := ba c
  obtain ⟨c10, c⟩ := ba c
  obtain ⟨c11, c⟩ := ba c
  obtain ⟨c12, c⟩ := ba c
  obtain ⟨c13, c⟩ := ba c
  obtain ⟨c14, c⟩ := ba c
  obtain ⟨c15, c⟩ := ba c
  obtain ⟨c16, c⟩ := ba c
  obtain ⟨c17, c⟩ := ba c
  obtain ⟨c18, c⟩ := ba c
  obtain ⟨c19, c⟩ := ba c
  refine { ff := of_decide_eq_true c19, gC := mg_of X G (eqO_ok c1), cls := clsB_ok c2, sa := eqO_ok c3, ga := eqO_ok c4, gg := eqO_ok c5, noN := eqO_ok c6, iC := eqO_ok c7, tC := ovB_ok c8, kC := c9, exC := obB_ok c10, tyC := ovB_ok c11, hdC := c12, sup := mg_none_of X G (eqO_ok c13), opq := eqO_ok c14, ssi := eqO_ok c15, sVE := obB_ok c16, slf := obB_ok c17, top := by simpa using c18, fn := ?_ }
  unfold funB at c
  split at c
  · rename_i oc od fd osl hl
    obtain ⟨d1, c⟩ := ba c
    obtain ⟨d2, c⟩ := ba c
    obtain ⟨d3, c⟩ := ba c
    obtain ⟨d4, c⟩ := ba c
    obtain ⟨d5, c⟩ := ba c
    obtain ⟨d6, c⟩ := ba c
    obtain ⟨d7, c⟩ := ba c
    obtain ⟨d8, c⟩ := ba c
    obtain ⟨d9, d10⟩ := ba c
    obtain ⟨txt, j, p0, p1, p2, p3, p4, p5, q0, q1, q2, q3, eb, hp⟩ := bodyB_ok d3
    obtain ⟨a0, a1, ep, ha0, ha1⟩ := parB_ok d2
    obtain ⟨cda, ccl, cdd, vs, ccs, fl, tf, ec, hc, hv, hf⟩ := codB_ok d9
    obtain ⟨cc, cl, cld, csl, el, hcc⟩ := cloB_ok d6
    obtain ⟨n1, n2, n3, n4, n5, n6, n7, n8, n9, n10, n11, n12, n13, n14, n15⟩ := fd
    simp only at d1 d4 d5 d7 d8 d10 eb ep ec el
    have e1 : n1 = "__init__" := of_decide_eq_true d1
    have e5 : n6 = mainGlobals := of_decide_eq_true d5
    have e10 : n15 = builtinsNs := of_decide_eq_true d10
    have d7' : n8 = .none := by
      unfold noneB at d7
      split at d7
      · rfl
      · cases d7
    subst e1 e5 e10 eb ep ec el d7'
    unfold scoB at d4
    obtain ⟨s1, d4⟩ := ba d4
    obtain ⟨s2, d4⟩ := ba d4
    obtain ⟨s3, d4⟩ := ba d4
    obtain ⟨s4, d4⟩ := ba d4
    obtain ⟨s5, d4⟩ := ba d4
    obtain ⟨s6, d4⟩ := ba d4
    obtain ⟨s7, s8⟩ := ba d4
    refine ⟨oc, od, n2, txt, _, n5, n9, n10, n11, n12, cda, n14, osl, cc, p0, p1, p2, p3, p4, p5, q0, q1, q2, q3, j, a0, a1, ccl, cdd, vs, ccs, fl, tf, cl, cld, csl, hl, hp, d8, rfl, ha0, ha1, of_decide_eq_true s1, by simpa using s2, by simpa using s3, fun y hy => ?_, of_decide_eq_true s5, of_decide_eq_true s6, of_decide_eq_true s7, of_decide_eq_true s8, hc, hv, hf, hcc⟩
    have z := List.all_eq_true.mp s4 y hy
    simpa using z
  · cases c
end BE

set_option Elab.async false
set_option linter.all false
set_option maxRecDepth 100000
set_option maxHeartbeats 2000000
/-! ## defs that may raise (own text) -/
namespace BL
open PySem PySem.Spec PyProof.Rows L2
theorem units65 {k : Nat} {A : Around} (r : Room k A) : A.units + 65 < cLine := by have := r.un; omega
section
variable {P : Program} {w : World} {K : PySem.W.Frag} {mg : Str → Option Value} {base : Heap}
variable {X : Cx} {CX : CXT} {E : XK} {k : Nat} {f C : Addr} {ps : List Str} {sp : Sp} {x m : Str} {p pos apos : Pos} {e o : Expr} {es : List Expr} {t : TA} {ta : TE}
/-- THE RULE for a def that may let an exception out -/
theorem Cal.ofX {xn qual : Str} {params : Arguments} {body : List Stmt} {scope : Scope} {fd : FuncData} {N : List Str} (F : FunD K xn qual params body scope [] [] f fd) (b : Binds K fd ps []) (S : FnScope N ps scope)
    (len : ∀ vs H Q E, sp vs H Q E → vs.length = ps.length)
    (hbody : ∀ (cdv : Value) (A : Around) (outer : List Env) (s : Shared) (H : Hp) (vs : List V) (Q : VK) (E : XK), Room k (A.deeper (envOfC qual scope s.heap.objs.size f cdv)) → sp vs H Q E →
      ∃ t, PSs (cxOf (L2.CX P w) P w K mg base N qual scope f cdv A outer s H E) body t ∧ t ⟨fun _ H' => Q .non H', Q, fun _ _ => False, fun _ _ => False⟩ (start N vs) H) : Cal P w K mg base (L2.CX P w) (k + 1) f ps sp := by
  refine ⟨⟨fd, F.ok S len fun cdv A outer s H vs Q E hr hsp => ?_, b⟩, F.kp⟩
  obtain ⟨t, h, q⟩ := hbody cdv A outer s H vs Q E hr hsp
  exact ⟨t, h, q⟩
end
section
variable {σ : L2.St} {H : Hp} {D : Ends} {tA : TA} {W : WX} {fl : Str} {C : Addr}
end
end BL

namespace BL
open PySem PySem.Spec PyProof.Rows L2
/-! ### x in y: data in a list, a tuple; a sign in a text -/
def rInFp (K : PySem.W.Frag) (neg : Bool) : R2 := fun x y H Q => ∃ d ds, Dp K H x d ∧ (Dp K H y (.list ds) ∨ Dp K H y (.tuple ds)) ∧ SeqAt.shaped d = true ∧ PyData.canLayAll0 ds = true ∧ Q (.bl (if neg then !ds.any (fun z => PyData.eqv z d) else ds.any fun z => PyData.eqv z d)) H
def uIn (K : PySem.W.Frag) : R2 := fun x y H Q => rInFp K false x y H Q ∨ rInS x y H Q
def uNin (K : PySem.W.Frag) : R2 := fun x y H Q => rInFp K true x y H Q ∨ rNotInS x y H Q
theorem op_inFp {X : Cx} (hu : X.A.units + 65 < cLine) : OpR X (compareOp .In) (rInFp X.K false) := by
  intro pins s σ H x y v u Q I rx ry h
  obtain ⟨d, ds, hd, he, sd, se, q⟩ := h
  obtain ⟨as, r1⟩ := Dp.reads I d x v hd rx
  rcases he with he | he
  · obtain ⟨bs, r2⟩ := Dp.reads I (.list ds) y u he ry
    exact SeqAt.in_list_reads r2 r1 se (SeqAt.canLay_of_shaped sd) (room_in_shaped sd hu) ⟨.bl _, H, I, rfl, q⟩
  · obtain ⟨bs, r2⟩ := Dp.reads I (.tuple ds) y u he ry
    exact SeqAt.in_tuple_reads r2 r1 se (SeqAt.canLay_of_shaped sd) (room_in_shaped sd hu) ⟨.bl _, H, I, rfl, q⟩
theorem op_ninFp {X : Cx} (hu : X.A.units + 65 < cLine) : OpR X (compareOp .NotIn) (rInFp X.K true) := by
  intro pins s σ H x y v u Q I rx ry h
  obtain ⟨d, ds, hd, he, sd, se, q⟩ := h
  obtain ⟨as, r1⟩ := Dp.reads I d x v hd rx
  rcases he with he | he
  · obtain ⟨bs, r2⟩ := Dp.reads I (.list ds) y u he ry
    exact SeqAt.notIn_list_reads r2 r1 se (SeqAt.canLay_of_shaped sd) (room_in_shaped sd hu) ⟨.bl _, H, I, rfl, q⟩
  · obtain ⟨bs, r2⟩ := Dp.reads I (.tuple ds) y u he ry
    exact SeqAt.notIn_tuple_reads r2 r1 se (SeqAt.canLay_of_shaped sd) (room_in_shaped sd hu) ⟨.bl _, H, I, rfl, q⟩
theorem k_in {X : Cx} (K : PySem.W.Frag) (hu : X.A.units + 65 < cLine) (hK : X.K = K := by rfl) : OpR X (compareOp .In) (uIn K) := by
  subst hK
  exact (op_inFp hu).or op_inS
theorem k_nin {X : Cx} (K : PySem.W.Frag) (hu : X.A.units + 65 < cLine) (hK : X.K = K := by rfl) : OpR X (compareOp .NotIn) (uNin K) := by
  subst hK
  exact (op_ninFp hu).or op_notInS
section
variable {K : PySem.W.Frag} {H : Hp} {Q : VK} {x y : V}
end
/-! ### a op b op c of ints -/
section
variable {σ : L2.St} {H : Hp} {Q : VK} {ta tb tc : TE} {r r' : R2}
end
end BL
namespace BL
open PySem PySem.Spec PyProof.Rows L2
/-! ### interfaces -/
end BL
namespace BL
open PySem PySem.Spec PyProof.Rows L2
end BL
namespace BL
open PySem PySem.Spec PyProof.Rows L2
end BL

set_option Elab.async false
set_option linter.all false
set_option maxRecDepth 100000
set_option maxHeartbeats 2000000
/-! ## enumerate over a tuple (own text) -/
namespace BN
open PySem PySem.Spec PyProof.Rows L2
open AutoSeq1 (wpAny_loadPart')
theorem draws_tup {prog : Program} {w : World} {A : Around} (hh : A.handled = none) (it t : Addr) (hne : t ≠ it) (items : Array Value) :
    Draws prog w A it [it, t] items.size (fun i v => items[i]? = some v) (fun i h => h.IsTupleIter it t i ∧ h.IsTuple t items) where
  live := fun _ _ st => let ⟨o, ho, _⟩ := st.1; ⟨o, ho⟩
  frame := fun _ _ _ st hk => ⟨let ⟨o, ho, r⟩ := st.1; ⟨o, hk it (by simp) o ho, r⟩, let ⟨o, ho, r⟩ := st.2; ⟨o, hk t (by simp) o ho, r⟩⟩
  item := fun i s Q E hi st hQ => wpAny_nextOf_tuple_item st.1 st.2 (x := items[i]) (by simp [hi]) fun h' hit' hs' => hQ _ h' s.toks (by simp [hi]) ⟨hit', st.2.extBut hs'.extBut hne⟩ hs'
  done := fun s Q E st hE => wpAny_nextOf_tuple_end hh st.1 st.2 (by simp) hE
theorem meets_enum_tup (l : Addr) (items : Array Value) (n : Nat) (dct : Option Addr) (sl : Array (Option Value)) :
    Meets (Builtin.«enumerate.__new__» ⟨[.type "enumerate", .ref l], []⟩) (fun _ R s => s.heap.get? l = some { cls := .type "tuple", dict := dct, data := .seq items n, slots := sl } ∧
      R (.ok (.ret (.ref (s.heap.push { cls := .type "tuple_iterator", data := .fields #[.ref l, .int 0 0] }).objs.size)))
        { s with heap := (s.heap.push { cls := .type "tuple_iterator", data := .fields #[.ref l, .int 0 0] }).push { cls := .type "enumerate", data := .fields #[.none, .bool false, .ref s.heap.objs.size, rawInt 0, .none, .none] } }) :=
  .of_wp fun prog w A R s h => by
    obtain ⟨hp, g, d, tk, os⟩ := s; obtain ⟨hl, h⟩ := h
    have hsub := sub_enumerate
    have hL : Heap.IsTuple (Shared.heap ⟨hp, g, d, tk, os⟩) l items := ⟨_, hl, rfl, n, rfl⟩
    wp_walk using wpAny_loadPart' hl
    refine wpAny_stack_any fun st => wpAny_pure ?_
    split
    · rename_i c _ _ _ _ _
      cases (c == Value.type "enumerate")
      · wp_walk using wpAny_loadPart' hl, wpAny_pyIter_tuple hL
        exact ⟨_, rfl, h⟩
      · wp_walk using wpAny_loadPart' hl, wpAny_pyIter_tuple hL
        exact ⟨_, rfl, h⟩
    · wp_walk using wpAny_loadPart' hl, wpAny_pyIter_tuple hL
      exact ⟨_, rfl, h⟩
section
variable {prog : Program} {w : World} {A : Around} {E : Value → Shared → Prop} {s : Shared}
theorem call_enum_tup {l : Addr} {items : Array Value} {Q : Value → Shared → Prop} (hL : s.heap.IsTuple l items)
    (h : ∀ h', IsEnum h' (s.heap.objs.size + 1) s.heap.objs.size 0 .none → h'.IsTupleIter s.heap.objs.size l 0 → h'.objs.size = s.heap.objs.size + 2 →
      (∀ b o, s.heap.get? b = some o → h'.get? b = some o) → Q (.ref (s.heap.objs.size + 1)) { s with heap := h' }) :
    wpAny (model prog w) A (call (.type "enumerate") [.ref l]) Q E s := by
  obtain ⟨⟨c, dct, dt, sl⟩, hl, hc, n, hd⟩ := hL
  replace hc : c = .type "tuple" := hc
  replace hd : dt = .seq items n := hd
  subst hc hd
  refine callType_new F.called_enumerate (by decide) (F.typeCall_enumerate_1 _) (F.newCall_enumerate_1 _) (fun obj => F.args_object_init_2 obj _) F.entry_enumerate_new
    (meets_enum_tup l items n dct sl) ⟨hl, ?_⟩
  have hz : (s.heap.push { cls := .type "tuple_iterator", data := .fields #[.ref l, .int 0 0] }).objs.size = s.heap.objs.size + 1 := Heap.size_push ..
  show _ ∧ _
  rw [hz]
  have he : IsEnum ((s.heap.push { cls := .type "tuple_iterator", data := .fields #[.ref l, .int 0 0] }).push
      { cls := .type "enumerate", data := .fields #[.none, .bool false, .ref s.heap.objs.size, rawInt 0, .none, .none] }) (s.heap.objs.size + 1) s.heap.objs.size 0 .none := Heap.get?_push_at hz.symm rfl
  exact ⟨⟨_, he, rfl⟩, h _ he ⟨_, Heap.get?_push_of_some _ (Heap.get?_push_size _ rfl), rfl, rfl⟩ (by rw [Heap.size_push, hz]) fun b o x => Heap.get?_push_of_some _ (Heap.get?_push_of_some _ x)⟩
theorem next_enum_end {e it t : Addr} {items : Array Value} {i : Nat} {old : Value} {Q : Option Value → Shared → Prop} (hh : A.handled = none)
    (he : IsEnum s.heap e it i old) (hit : s.heap.IsTupleIter it t i) (ht : s.heap.IsTuple t items) (hx : items[i]? = none)
    (hQ : ∀ h', Heap.ExtBut it s.heap h' → Q none { s with heap := h' }) : wpAny (model prog w) A (pyNext (.ref e)) Q E s := by
  have hT : s.TypeIs (.ref e) "enumerate" := ⟨_, he, rfl⟩
  unfold pyNext
  refine wpAny_bind (wpAny_attempt (wpAny_callSpecial?_slot (name := Str.ofString "__next__") hT F.slot_enumerate_next
    (wpAny_call_entry F.slot_enumerate_next hT F.entry_enumerate_next ?_ (F.args_enumerate_next_1 _))))
  show wpAny _ _ (field (.ref e) 2 >>= _) _ _ _
  refine wpAny_bind (wpAny_field he rfl (x := .ref it) rfl ?_)
  refine wpAny_bind (wpAny_nextOf_tuple_end hh hit ht hx fun h' x he' hx' => ?_)
  obtain ⟨o, ho, hc⟩ := hx'
  refine wpAny_bind (wpAny_isInstance (T := "StopIteration") (b := true) ⟨o, ho, hc⟩ isSubtype_stop ?_)
  exact wpAny_pure (hQ _ he')
end
end BN
namespace L2
open PySem PySem.Spec PyProof.Rows
/-- the tuple at a, each item in a new pair -/
def Itet (K : PySem.W.Frag) (a : Addr) : It :=
  ⟨fun i H => ∃ (xs : List V) (x : V), SqT K H a xs ∧ xs[i]? = some x, fun i H v H' => ∃ T x, v = .ref T ∧ H T = none ∧ H' = upd H T (.tup [.int (i : Nat), x]) ∧ ∀ xs, SqT K H a xs → xs[i]? = some x, fun i H => ∃ xs : List V, SqT K H a xs ∧ xs.length ≤ i⟩
theorem turn_enumT {P : Program} {w : World} {K : PySem.W.Frag} {elts : List Expr} {kk : Nat} {tpos : Pos} (a e it : Addr) :
    Turn P w K (.Tuple elts kk tpos) (Itet K a) [e, it] e (fun i h => (∃ old, IsEnum h e it ((i : Nat) : Int) old) ∧ h.IsTupleIter it a i ∧ e ≠ it ∧ a ≠ it ∧ a ≠ e) where
  mem := by simp
  obj := fun i h st b hb => by
    obtain ⟨⟨old, he⟩, ⟨o, ho, hc, hd⟩, _⟩ := st
    have e' : b = e ∨ b = it := by simpa using hb
    rcases e' with z | z
    · rw [z]; exact ⟨_, he, fun v q => nomatch q⟩
    · rw [z]; exact ⟨o, ho, fun v q => by rw [hd] at q; cases q⟩
  keep := fun i h h' st k => let ⟨⟨old, he⟩, ⟨o, ho, r⟩, hne⟩ := st; ⟨⟨old, k e (by simp) _ he⟩, ⟨o, k it (by simp) _ ho, r⟩, hne⟩
  item := by
    intro X hP hw hK hc i pins s σ H E I hf st hg
    subst hP hw hK
    obtain ⟨⟨old, he⟩, hit, hne, hai, hae⟩ := st
    obtain ⟨xs, x, hq, hx⟩ := hg
    obtain ⟨its, rv, p, hz⟩ := I.tuple hq
    obtain ⟨u, hu, ru⟩ := rv.get hx
    have hel : e < s.heap.objs.size := Heap.lt_size he
    have hil : it < s.heap.objs.size := by obtain ⟨_, q, _⟩ := hit; exact Heap.lt_size q
    have hlt : i < its.toArray.size := by simpa using (List.getElem?_eq_some_iff.mp hu).1
    refine wpAny_pyNext_enum_itemD (BN.draws_tup (show X.A.in1.handled = none from I.ok.hd hc) it a hai its.toArray) he ⟨hit, p⟩ hlt hne (by simp [hne, Ne.symm hae]) fun u2 h' tk hP ho hst hT hsz hk => ?_
    obtain rfl : u2 = u := by
      have z1 : its[i]? = some u2 := by simpa using hP
      rw [hu] at z1
      exact (Option.some.inj z1).symm
    obtain ⟨hit', hp'⟩ := hst
    refine ⟨_, rfl, wpAny_letOwnedTupleGo_enum (s := { s with heap := h', toks := tk + 1 }) ho fun h'' he' sb => ?_⟩
    have hT2 : h''.get? s.heap.objs.size = some { cls := .type "tuple", data := .seq #[.int i tk, u2] } := (sb.2 _ (Nat.ne_of_gt hel)).trans hT
    have new : ObjOk X.prog X.w (upd H s.heap.objs.size (.tup [.int (i : Nat), x])) h'' s.heap.objs.size (.tup [.int (i : Nat), x]) :=
      ⟨by show 2 ≤ sizeLine; decide, [.int i tk, u2], .cons ⟨_, rfl⟩ (.cons ru .nil), ⟨_, hT2, rfl, _, rfl⟩⟩
    have I1 : Inv X pins σ (upd H s.heap.objs.size (.tup [.int (i : Nat), x])) { s with heap := h'', toks := tk + 1 } :=
      I.turnedNew (ch := [e, it]) (fun b ob hb q => (sb.2 b (fun z => hb (by simp [z]))).trans (hk b ob (fun z => hb (by simp [z])) (fun z => hb (by simp [z])) q)) hf (Nat.le_refl _) new
    refine ⟨.ref s.heap.objs.size, _, I1, rfl, ⟨_, x, rfl, I.hok.fresh (Nat.le_refl _), rfl, fun ys hy => by rw [I.tuple_inj hy hq]; exact hx⟩, ⟨⟨u2, ?_⟩, ?_, hne, hai, hae⟩, fun b hb => ?_⟩
    · have e1 : ((i + 1 : Nat) : Int) = (i : Int) + 1 := by omega
      rw [e1]; exact he'
    · obtain ⟨o, ho2, r⟩ := hit'
      exact ⟨o, (sb.2 it (Ne.symm hne)).trans ho2, r⟩
    · have hb' : b < s.heap.objs.size := by
        have e' : b = e ∨ b = it := by simpa using hb
        rcases e' with z | z
        · rw [z]; exact hel
        · rw [z]; exact hil
      rw [upd_ne (Nat.ne_of_lt hb')]
      exact (hf b hb).1
  done := by
    intro X hP hw hK hc i pins s σ H E I hf st hg
    subst hP hw hK
    obtain ⟨⟨old, he⟩, hit, hne, hai, hae⟩ := st
    obtain ⟨xs, hq, hx⟩ := hg
    obtain ⟨its, rv, p, hz⟩ := I.tuple hq
    obtain ⟨f0, f1, f2, f3, f4, f5⟩ := hf it (by simp)
    have hl := rv.length
    exact BN.next_enum_end (I.ok.hd hc) he hit p (by simp; omega) fun h' eb => ⟨rfl, I.turned (t' := s.toks) (fun b o hb q => eb b o hb q) f0 f1 f3 f4 f5⟩
  self := fun A i s Q E st h => let ⟨⟨_, he⟩, _⟩ := st; wpAny_pyIter_enum he h
/-- enumerate of a list or a tuple -/
def iEnumA (K : PySem.W.Frag) (ta : TA) : TI := fun σ H R => ta σ H fun vs H1 => ∃ a xs, vs = [.ref a] ∧ ((SqL K H1 a xs ∧ R (Ite K a) H1) ∨ (SqT K H1 a xs ∧ R (Itet K a) H1))
theorem pi_enumA {X : Cx} {e : Expr} {ta : TA} {p pos tpos : Pos} {elts : List Expr} {kk : Nat} (hg : Gl X "enumerate") (hm : X.mg "enumerate" = none) (ha : PA X [e] ta) (hs : starEach [e] X.env = [(false, eval e X.env)] := by rfl) :
    PI X (.Tuple elts kk tpos) (.Call (.Name "enumerate" p) [e] [] pos) (iEnumA X.K ta) := by
  refine ⟨fun pins s σ H R I h => ?_⟩
  refine Call_ (ld_blt I hg hm boot_enumerate (PyProof.Rows.callWith_type1 (thn (ha.run pos pins s σ H _ I h) fun us s1 ⟨vs, H1, I1, r1, q1⟩ => ?_) hs rfl))
  obtain ⟨a, xs, ex, q⟩ := q1
  subst ex
  cases r1 with
  | cons r rr =>
    cases rr
    cases r
    have fin : ∀ b : Addr, b ∈ [s1.heap.objs.size + 1, s1.heap.objs.size] → s1.heap.objs.size ≤ b := fun b hb => by
      have e' : b = s1.heap.objs.size + 1 ∨ b = s1.heap.objs.size := by simpa using hb
      rcases e' with z | z
      · rw [z]; exact Nat.le_add_right _ _
      · rw [z]; exact Nat.le_refl _
    rcases q with ⟨hq, q⟩ | ⟨hq, q⟩
    · obtain ⟨its, rv, p', hz⟩ := I1.list hq
      refine call_enumerate_list p'.isList fun h' he hit hsz hk => wpAny_pyIter_enum he ?_
      have I2 : Inv X pins σ H1 { s1 with heap := h' } := I1.kept (t' := s1.toks) hk
      exact ⟨s1.heap.objs.size + 1, [s1.heap.objs.size + 1, s1.heap.objs.size], _, _, H1, rfl, I2, turn_enum a (s1.heap.objs.size + 1) s1.heap.objs.size, ⟨⟨.none, he⟩, hit, Nat.succ_ne_self _⟩, fun b hb => I1.fpOk (fin b hb) (I1.hok.fresh (fin b hb)), q⟩
    · obtain ⟨its, rv, p', hz⟩ := I1.tuple hq
      have hal : a < s1.heap.objs.size := by obtain ⟨o, ho, _⟩ := p'; exact Heap.lt_size ho
      refine BN.call_enum_tup p' fun h' he hit hsz hk => wpAny_pyIter_enum he ?_
      have I2 : Inv X pins σ H1 { s1 with heap := h' } := I1.kept (t' := s1.toks) hk
      exact ⟨s1.heap.objs.size + 1, [s1.heap.objs.size + 1, s1.heap.objs.size], _, _, H1, rfl, I2, turn_enumT a (s1.heap.objs.size + 1) s1.heap.objs.size, ⟨⟨.none, he⟩, hit, Nat.succ_ne_self _, Nat.ne_of_lt hal, Nat.ne_of_lt (Nat.lt_succ_of_lt hal)⟩, fun b hb => I1.fpOk (fin b hb) (I1.hok.fresh (fin b hb)), q⟩
end L2
namespace BL
open PySem PySem.Spec PyProof.Rows L2
end BL
namespace BL
open PySem PySem.Spec PyProof.Rows L2
section
variable {K : PySem.W.Frag} {σ : L2.St} {H : Hp} {Q : VK} {tA : TA} {tb : TS} {g : TG} {nx bk ct : L2.St → Hp → Prop} {rt : VK} {v x : V} {a : Addr} {xs : List V}
end
end BL

set_option Elab.async false
set_option linter.all false
set_option maxRecDepth 100000
set_option maxHeartbeats 2000000
/-! ## The head of a law with properties (own text) -/
namespace BH
open PySem PySem.Spec PyProof.Rows L2 He
/-- a property's getter: the class, the name, the def -/
abbrev PrD := Str × Str × DefD
section
variable {qs : Qs} {pn : List PrD} {fn : List DefD} {K : PySem.W.Frag}
end
end BH

set_option linter.all false
/-! ## A small machine for the subset of Python that the program and the laws use: values without addresses, lists owned by names (own text) -/
namespace IA
inductive Val where
  | non | bl (b : Bool) | int (i : Int) | str (s : String)
  | tup (xs : List Val) | lst (xs : List Val)
  | obj (C : String) (fs : List (String × Val))
  | ref (n : Nat)
  | scr (xs : List Val)
  deriving Inhabited, Repr
/-- what a name holds: a value, or a list that this name alone owns -/
inductive SV where
  | v (x : Val) | own (xs : List Val) | exc (C : String) (x : Val)
  deriving Inhabited, Repr
inductive Cell where
  | lst (xs : List Val) | ins (C : String) (fs : List (String × Val)) | dct (fs : List (String × Val))
  deriving Inhabited, Repr
structure AHeap where
  c : Nat → Option Cell
  next : Nat
structure St where
  σ : List (Option SV)
  h : AHeap
inductive Res (S α : Type) where
  | ok (a : α) (s : S) | exc (C : String) (v : Val) (s : S) | stuck
/-- what an expression gives: a value, the list of a name, a list just made -/
inductive EV where
  | val (v : Val) | own (i : Nat) | new (xs : List Val)
  deriving Inhabited, Repr
inductive Op2 where
  | add | sub | mul | fdiv | mod | pow | eq | ne | lt | le | gt | ge | mem | nmem
inductive Ty where
  | int | bool | str | list | tuple | cls (C : String) (cs : List String)
inductive Bi where
  | len | int | str | list | tuple | min | max | sum | all | ord | append | pop | extend | index | join | split | get
inductive Rk where
  | list | tup | str | dct
mutual
inductive E where
  | c (v : Val)
  | var (i : Nat)
  | op (o : Op2) (a b : E)
  | ch (o1 o2 : Op2) (a b c : E)
  | isn (a : E) | isnt (a : E)
  | and (a b : E) | or (a b : E) | not (a : E) | ite (c a b : E) | neg (a : E)
  | tup (es : Es) | lst (es : Es)
  | ix (a i : E)
  | sl (a : E) (lo hi : Option Unit) (l h : E)
  | rev (a : E)
  | fld (a : E) (f : String) (cs : List String)
  | xat (i : Nat)
  | xisi (i : Nat) (cs : List String)
  | dix (a : E) (k : String)
  | bi (b : Bi) (es : Es)
  | bm (T : Rk) (b : Bi) (a : E) (es : Es)
  | isi (a : E) (ts : List Ty)
  | eqo (C : String) (a b : E)
  | eql (C : String) (a b : E)
  | call (f : String) (es : Es)
  | mk (C : String) (es : Es)
  | meth (C : String) (m : String) (a : E) (es : Es)
  | prop (C : String) (m : String) (a : E)
  | comp (it : It) (t : Tg) (cond : E) (elt : E) (own : List Nat)
  | heap (e : E)
  | fmt (es : Es)
  | dct (ks : List String) (es : Es)
inductive Es where
  | nil | cons (e : E) (r : Es) | star (e : E) (r : Es)
inductive It where
  | seq (e : E) | rng (e : E) | rng2 (a b : E) | enum (e : E) | zip (a b : E) | rev (e : E)
inductive Tg where
  | name (i : Nat) | tup (ts : Tgs) | sub (a i : E) | dsub (a : E) (k : String) | fld (a : E) (f : String) (cs : List String)
inductive Tgs where
  | nil | cons (t : Tg) (r : Tgs)
end
mutual
inductive S where
  | asg (t : Tg) (e : E)
  | aug (o : Op2) (t : Tg) (e : E)
  | ret (e : E)
  | ex (e : E)
  | ifs (c : E) (a b : Ss)
  | for (t : Tg) (it : It) (b : Ss)
  | while (c : E) (b : Ss)
  | raise (C : String) (e : E)
  | try (b : Ss) (C : String) (slot : Option Nat) (h : Ss) (els : Ss) (xs : List String)
  | brk
inductive Ss where
  | nil | cons (s : S) (r : Ss)
end
inductive Flow where
  | nxt | ret (v : Val) | brk

/-! ### small things -/
def szL : Nat := 16777216
def Res.bind {S α β : Type} (r : Res S α) (f : α → S → Res S β) : Res S β :=
  match r with
  | .ok a s => f a s
  | .exc C v s => .exc C v s
  | .stuck => .stuck
def Res.get {S α β : Type} (o : Option α) (f : α → Res S β) : Res S β :=
  match o with
  | some a => f a
  | none => .stuck
/-- nothing may be raised out of a comprehension -/
def Res.quiet {S α : Type} (r : Res S α) : Res S α :=
  match r with
  | .exc _ _ _ => .stuck
  | r => r
def Res.chk {S α : Type} (c : Prop) [Decidable c] (r : Res S α) : Res S α := if c then r else .stuck
def AHeap.set (h : AHeap) (n : Nat) (c : Cell) : AHeap := ⟨fun m => if m = n then some c else h.c m, h.next⟩
def AHeap.del (h : AHeap) (n : Nat) : AHeap := ⟨fun m => if m = n then none else h.c m, h.next⟩
def AHeap.new (h : AHeap) (c : Cell) : AHeap := ⟨fun m => if m = h.next then some c else h.c m, h.next + 1⟩
def St.set (s : St) (i : Nat) (x : SV) : St := ⟨s.σ.set i (some x), s.h⟩
/-- the place of an index in a list of n items -/
def ixN (n : Nat) (i : Int) : Option Nat := if 0 ≤ i then (if i < n then some i.toNat else none) else if -(n : Int) ≤ i then some (i + n).toNat else none
def atI (xs : List Val) (i : Int) : Option Val := (ixN xs.length i).bind fun j => xs[j]?
def sIx (n d : Nat) : Option Int → Nat
  | none => d
  | some i => if i < 0 then (i + n).toNat else min i.toNat n
def cut {α : Type} (xs : List α) (lo hi : Option Int) : List α := (xs.drop (sIx xs.length 0 lo)).take (sIx xs.length xs.length hi - sIx xs.length 0 lo)
def look (f : String) : List (String × Val) → Option Val
  | [] => none
  | (g, x) :: r => if g = f then some x else look f r
def putF (f : String) (v : Val) : List (String × Val) → List (String × Val)
  | [] => [(f, v)]
  | (g, x) :: r => if g = f then (g, v) :: r else (g, x) :: putF f v r
/-! ### equality of data -/
mutual
def veq : Val → Val → Bool
  | .non, .non => true
  | .bl a, .bl b => a == b
  | .int a, .int b => decide (a = b)
  | .str a, .str b => decide (a = b)
  | .tup a, .tup b => veqL a b
  | .lst a, .lst b => veqL a b
  | _, _ => false
def veqL : List Val → List Val → Bool
  | [], [] => true
  | a :: as, b :: bs => veq a b && veqL as bs
  | _, _ => false
end
mutual
/-- data that may be compared: no truth values, no objects within -/
def good : Val → Bool
  | .non | .int _ | .str _ => true
  | .tup xs | .lst xs => goodL xs
  | _ => false
def goodL : List Val → Bool
  | [] => true
  | a :: as => good a && goodL as
end
mutual
def dep : Val → Nat
  | .tup xs | .lst xs => depL xs + 1
  | _ => 0
def depL : List Val → Nat
  | [] => 0
  | a :: as => max (dep a) (depL as)
end
/-- x == y of values: what Python says, where this file tells it -/
def eqV : Val → Val → Option Bool
  | .bl a, .bl b => some (a == b)
  | .bl _, .non => some false
  | .bl _, .str _ => some false
  | a, b => if good a && good b && decide (dep a ≤ 60) && decide (dep b ≤ 60) then some (veq a b) else none
def ofT : Val → Ty → Option Bool
  | .non, .int | .non, .bool | .non, .str | .non, .list | .non, .tuple => some false
  | .bl _, .int | .bl _, .bool => some true
  | .bl _, .str | .bl _, .list | .bl _, .tuple => some false
  | .int _, .int => some true
  | .int _, .bool | .int _, .str | .int _, .list | .int _, .tuple => some false
  | .str _, .str => some true
  | .str _, .int | .str _, .bool | .str _, .list | .str _, .tuple => some false
  | .lst _, .list => some true
  | .lst _, .int | .lst _, .bool | .lst _, .str | .lst _, .tuple => some false
  | .tup _, .tuple => some true
  | .tup _, .int | .tup _, .bool | .tup _, .str | .tup _, .list => some false
  | .obj C _, .cls D cs => if C ∈ cs then some (decide (C = D)) else none
  | _, _ => none
/-! ### the state read as lists -/
def EV.list (x : EV) (s : St) : Option (List Val) :=
  match x with
  | .new xs => some xs
  | .own i =>
    match s.σ[i]? with
    | some (some (.own xs)) => some xs
    | some (some (.v (.lst xs))) => some xs
    | _ => none
  | .val (.lst xs) => some xs
  | .val (.ref n) =>
    match s.h.c n with
    | some (.lst xs) => some xs
    | _ => none
  | _ => none
/-- a list or a tuple -/
def EV.seq (x : EV) (s : St) : Option (List Val) :=
  match x with
  | .val (.tup xs) => some xs
  | .val (.scr xs) => some xs
  | _ => x.list s
/-- a value that stands for the thing as it is now -/
def EV.peek (x : EV) (s : St) : Option Val :=
  match x with
  | .val (.ref n) => (EV.list (.val (.ref n)) s).map .lst
  | .val v => some v
  | _ => (x.list s).map .lst
/-- the value is kept: a name's own list is not changed any more -/
def EV.keep {α : Type} (x : EV) (s : St) (f : Val → St → Res St α) : Res St α :=
  match x with
  | .val v => f v s
  | .new xs => f (.lst xs) s
  | .own i =>
    match s.σ[i]? with
    | some (some (.own xs)) => f (.lst xs) (s.set i (.v (.lst xs)))
    | some (some (.v (.lst xs))) => f (.lst xs) s
    | _ => .stuck
/-- a list is changed -/
def EV.put (x : EV) (ys : List Val) (s : St) : Option St :=
  match x with
  | .own i =>
    match s.σ[i]? with
    | some (some (.own _)) => some (s.set i (.own ys))
    | _ => none
  | .val (.ref n) =>
    match s.h.c n with
    | some (.lst _) => some ⟨s.σ, s.h.set n (.lst ys)⟩
    | _ => none
  | _ => none
def smallI (i : Int) : Prop := -(2 ^ 64) < i ∧ i < 2 ^ 64
instance (i : Int) : Decidable (smallI i) := by unfold smallI; exact inferInstance
def b2i (b : Bool) : Int := if b then 1 else 0
/-- a sign of a text -/
def chStr (c : Char) : String := String.ofList [c]
/-! ### operators by values -/
def op2 (o : Op2) (x y : EV) (s : St) : Res St EV :=
  match o, x, y with
  | .add, .val (.int i), .val (.int j) => .ok (.val (.int (i + j))) s
  | .add, .val (.str i), .val (.str j) => .chk (i.length + j.length ≤ szL) (.ok (.val (.str (i ++ j))) s)
  | .add, .val (.tup i), .val (.tup j) => .chk (i.length + j.length ≤ szL) (.ok (.val (.tup (i ++ j))) s)
  | .add, x, y => .get (x.list s) fun xs => .get (y.list s) fun ys => .chk (xs.length + ys.length ≤ szL) (.ok (.new (xs ++ ys)) s)
  | .sub, .val (.int i), .val (.int j) => .ok (.val (.int (i - j))) s
  | .mul, .val (.int i), .val (.int j) => .chk (smallI i ∨ smallI j) (.ok (.val (.int (i * j))) s)
  | .mul, .new xs, .val (.int j) => .chk (-(2 ^ 63) ≤ j ∧ j < 2 ^ 63 ∧ xs.length * j.toNat ≤ szL) (.ok (.new (List.replicate j.toNat xs).flatten) s)
  | .fdiv, .val (.int i), .val (.int j) => .chk (0 < j ∧ j < 1073741824) (.ok (.val (.int (i / j))) s)
  | .mod, .val (.int i), .val (.int j) => .chk (0 < j) (.ok (.val (.int (i % j))) s)
  | .pow, .val (.int i), .val (.int j) => .chk (0 ≤ j ∧ j ≤ 1000000 ∧ i.natAbs < 2 ^ 64) (.ok (.val (.int (i ^ j.toNat))) s)
  | .lt, .val (.int i), .val (.int j) => .ok (.val (.bl (decide (i < j)))) s
  | .le, .val (.int i), .val (.int j) => .ok (.val (.bl (decide (i ≤ j)))) s
  | .le, .val (.str i), .val (.str j) => .ok (.val (.bl (!decide (j.toList.map Char.toNat < i.toList.map Char.toNat)))) s
  | .gt, .val (.int i), .val (.int j) => .ok (.val (.bl (decide (j < i)))) s
  | .ge, .val (.int i), .val (.int j) => .ok (.val (.bl (decide (j ≤ i)))) s
  | .eq, x, y => .get (x.peek s) fun a => .get (y.peek s) fun b => .get (eqV a b) fun k => .ok (.val (.bl k)) s
  | .ne, x, y => .get (x.peek s) fun a => .get (y.peek s) fun b => .get (eqV a b) fun k => .ok (.val (.bl (!k))) s
  | .mem, .val (.str i), .val (.str j) => .chk (i.length = 1) (.ok (.val (.bl (i.toList.any fun c => j.toList.contains c))) s)
  | .nmem, .val (.str i), .val (.str j) => .chk (i.length = 1) (.ok (.val (.bl (!i.toList.any fun c => j.toList.contains c))) s)
  | .mem, x, y => .get (x.peek s) fun a => .get (y.seq s) fun ys => .chk (good a = true ∧ goodL ys = true ∧ dep a ≤ 60) (.ok (.val (.bl (ys.any fun z => veq z a))) s)
  | .nmem, x, y => .get (x.peek s) fun a => .get (y.seq s) fun ys => .chk (good a = true ∧ goodL ys = true ∧ dep a ≤ 60) (.ok (.val (.bl (!ys.any fun z => veq z a))) s)
  | _, _, _ => .stuck
/-- the truth of a thing -/
def truth (x : EV) (s : St) : Option Bool :=
  match x with
  | .val .non => some false
  | .val (.bl b) => some b
  | .val (.int i) => some (i != 0)
  | .val (.str z) => if z.length ≤ szL then some (!z.isEmpty) else none
  | x => (x.seq s).map fun xs => !xs.isEmpty
def ixE (x : EV) (i : Val) (s : St) : Option Val :=
  match x, i with
  | .val (.str z), .int i => if z.length ≤ szL then ((ixN z.length i).bind fun j => z.toList[j]?).map fun c => .str (chStr c) else none
  | x, .int i => (x.seq s).bind fun xs => atI xs i
  | _, _ => none
def optI : Option Unit → Val → Option (Option Int)
  | none, _ => some none
  | some _, .int i => some (some i)
  | some _, _ => none
def slE (x : EV) (lo hi : Option Int) (s : St) : Option EV :=
  match x with
  | .val (.str z) => if z.length ≤ szL then some (.val (.str (String.ofList (cut z.toList lo hi)))) else none
  | .val (.tup xs) => some (.val (.tup (cut xs lo hi)))
  | x => (x.list s).map fun xs => .new (cut xs lo hi)
def fldE (x : EV) (f : String) (cs : List String) (s : St) : Option Val :=
  match x with
  | .val (.obj C fs) => if C ∈ cs then look f fs else none
  | .val (.ref n) =>
    match s.h.c n with
    | some (.ins C fs) => if C ∈ cs then look f fs else none
    | _ => none
  | _ => none
def dixE (x : EV) (k : String) (s : St) : Option Val :=
  match x with
  | .val (.ref n) =>
    match s.h.c n with
    | some (.dct fs) => look k fs
    | _ => none
  | _ => none
def recvOk (T : Rk) (x : EV) (s : St) : Bool :=
  match T, x with
  | .list, x => (x.list s).isSome
  | .tup, .val (.tup _) => true
  | .str, .val (.str _) => true
  | .dct, .val (.ref n) =>
    match s.h.c n with
    | some (.dct _) => true
    | _ => false
  | _, _ => false
/-- the words of a text between single spaces -/
def splitC (d : Char) : List Char → List Char → List (List Char)
  | acc, [] => [acc]
  | acc, c :: r => if c = d then acc :: splitC d [] r else splitC d (acc ++ [c]) r
def splitS (z : String) (d : Char) : List String := (splitC d [] z.toList).map String.ofList
def joinS (sep : String) : List String → String
  | [] => ""
  | [x] => x
  | x :: r => x ++ (sep ++ joinS sep r)
def strsOf : List Val → Option (List String)
  | [] => some []
  | .str z :: r => (strsOf r).map (z :: ·)
  | _ => none
def intsOf : List Val → Option (List Int)
  | [] => some []
  | .int z :: r => (intsOf r).map (z :: ·)
  | _ => none
def blsOf : List Val → Option (List Bool)
  | [] => some []
  | .bl z :: r => (blsOf r).map (z :: ·)
  | _ => none
def maxI : List Int → Int → Int
  | [], a => a
  | x :: r, a => maxI r (if a < x then x else a)
def minI : List Int → Int → Int
  | [], a => a
  | x :: r, a => minI r (if x < a then x else a)
def digit? (c : Char) : Option Nat := if '0' ≤ c ∧ c ≤ '9' then some (c.toNat - 48) else none
def digs : List Char → Nat → Option Nat
  | [], a => some a
  | c :: r, a => (digit? c).bind fun d => digs r (a * 10 + d)
/-- int(text): what str of it gives again -/
def intOf (z : String) : Option Int := (digs z.toList 0).bind fun n => if toString (n : Int) = z ∧ z.length ≤ 640 then some (n : Int) else none
def bi (b : Bi) (xs : List EV) (s : St) : Res St EV :=
  match b, xs with
  | .len, [.val (.str z)] => .chk (z.length ≤ szL) (.ok (.val (.int z.length)) s)
  | .len, [x] => .get (x.seq s) fun xs => .ok (.val (.int xs.length)) s
  | .int, [.val (.int i)] => .ok (.val (.int i)) s
  | .int, [.val (.bl b)] => .ok (.val (.int (b2i b))) s
  | .int, [.val (.str z)] => .get (intOf z) fun i => .ok (.val (.int i)) s
  | .str, [.val (.int i)] => .chk (i.natAbs.log2 < 1920) (.ok (.val (.str (toString i))) s)
  | .str, [.val (.str z)] => .ok (.val (.str z)) s
  | .list, [x] => .get (x.seq s) fun xs => .ok (.new xs) s
  | .tuple, [x] => .get (x.seq s) fun xs => .ok (.val (.tup xs)) s
  | .min, [.val (.int i), .val (.int j)] => .ok (.val (.int (if j < i then j else i))) s
  | .max, [.val (.int i), .val (.int j)] => .ok (.val (.int (if i < j then j else i))) s
  | .min, [x] => .get (x.list s) fun xs => .get (intsOf xs) fun ns => match ns with
    | [] => .stuck
    | n :: r => .ok (.val (.int (minI r n))) s
  | .max, [x] => .get (x.list s) fun xs => .get (intsOf xs) fun ns => match ns with
    | [] => .stuck
    | n :: r => .ok (.val (.int (maxI r n))) s
  | .sum, [x] => .get (x.list s) fun xs => .get (intsOf xs) fun ns => .ok (.val (.int ns.sum)) s
  | .all, [x] => .get (x.list s) fun xs => .get (blsOf xs) fun ns => .ok (.val (.bl (ns.all id))) s
  | .ord, [.val (.str z)] => match z.toList with
    | [c] => .ok (.val (.int c.toNat)) s
    | _ => .stuck
  | .append, [x, y] => y.keep s fun v s => .get (x.list s) fun xs => .chk (xs.length < szL) (.get (x.put (xs ++ [v]) s) fun s => .ok (.val .non) s)
  | .extend, [x, y] => .get (y.list s) fun ys => .get (x.list s) fun xs => .chk (xs.length + ys.length ≤ szL) (.get (x.put (xs ++ ys) s) fun s => .ok (.val .non) s)
  | .pop, [x] => .get (x.list s) fun xs => .get (xs.getLast?) fun v => .get (x.put xs.dropLast s) fun s => .ok (.val v) s
  | .index, [x, y] => .get (x.seq s) fun xs => .get (y.peek s) fun a => .chk (good a = true ∧ goodL xs = true ∧ dep a ≤ 60) (.get (xs.findIdx? fun z => veq z a) fun i => .ok (.val (.int i)) s)
  | .join, [.val (.str z), y] => .get (y.seq s) fun ys => .get (strsOf ys) fun zs => .chk ((zs.map String.length).sum + zs.length * z.length ≤ szL) (.ok (.val (.str (joinS z zs))) s)
  | .get, [.val (.ref n), .val (.str k), .val d] => match s.h.c n with
    | some (.dct fs) => .ok (.val ((look k fs).getD d)) s
    | _ => .stuck
  | .split, [.val (.str z), .val (.str d)] => .chk (z.length + 2 ≤ szL ∧ d = " ") (.ok (.new ((splitS z ' ').map .str)) s)
  | _, _ => .stuck
/-- parts of an f-string -/
def fmtOf : List EV → Option String
  | [] => some ""
  | .val (.str z) :: r => (fmtOf r).map (z ++ ·)
  | .val (.int i) :: r => if i.natAbs.log2 < 1920 then (fmtOf r).map (toString i ++ ·) else none
  | _ => none
/-- the classes whose instances are not changed behind their __init__ -/
def immC (C : String) : Bool := C == "Interface" || C == "Component" || C == "Scope" || C == "Code" || C == "Policy" || C == "Verdict"
def baseC (C D : String) : Bool := C == D || D == "BlameError" || D == "ValueError"

def isNon : EV → Option Bool
  | .val .non => some true
  | .own _ => none
  | _ => some false
theorem Res.bind_assoc {S α β γ : Type} (r : Res S α) (f : α → S → Res S β) (g : β → S → Res S γ) : (r.bind f).bind g = r.bind fun a s => (f a s).bind g := by
  cases r <;> rfl
/-! ### the evaluation -/
structure Env where
  call : String → List Val → AHeap → Res AHeap Val
  lim : Nat
def lift (s : St) (r : Res AHeap Val) : Res St EV :=
  match r with
  | .ok a h => .ok (.val a) ⟨s.σ, h⟩
  | .exc C v h => .exc C v ⟨s.σ, h⟩
  | .stuck => .stuck
/-- what a loop walks: a list that nobody changes; the list at n as it is at each turn (enumerated) -/
inductive Src where
  | xs (l : List Val) | ref (n : Nat) (enum : Bool)
def enumL : Nat → List Val → List Val
  | _, [] => []
  | i, x :: xs => .tup [.int i, x] :: enumL (i + 1) xs
def zipL : List Val → List Val → List Val
  | x :: xs, y :: ys => .tup [x, y] :: zipL xs ys
  | _, _ => []
def rngL (lo : Int) : Nat → List Val
  | 0 => []
  | n + 1 => .int lo :: rngL (lo + 1) n
def boundI (i : Int) : Prop := -(2 ^ 62) ≤ i ∧ i < 2 ^ 62
instance (i : Int) : Decidable (boundI i) := by unfold boundI; exact inferInstance
def itemAt (n : Nat) (enum : Bool) (i : Nat) (s : St) : Option (Option Val) :=
  match s.h.c n with
  | some (.lst xs) => some (xs[i]?.map fun x => if enum then .tup [.int i, x] else x)
  | _ => none
def compL (body : Val → St → Res St (Option Val)) : List Val → List Val → St → Res St (List Val)
  | [], acc, s => .ok acc s
  | x :: xs, acc, s => (body x s).bind fun o s => match o with
    | none => compL body xs acc s
    | some v => .chk (acc.length < szL) (compL body xs (acc ++ [v]) s)
def compR (n : Nat) (enum : Bool) (body : Val → St → Res St (Option Val)) : Nat → Nat → List Val → St → Res St (List Val)
  | 0, _, _, _ => .stuck
  | k + 1, i, acc, s => .get (itemAt n enum i s) fun o => match o with
    | none => .ok acc s
    | some x => (body x s).bind fun o s => match o with
      | none => compR n enum body k (i + 1) acc s
      | some v => .chk (acc.length < szL) (compR n enum body k (i + 1) (acc ++ [v]) s)
def forL (body : Val → St → Res St Flow) : List Val → St → Res St Flow
  | [], s => .ok .nxt s
  | x :: xs, s => (body x s).bind fun f s => match f with
    | .nxt => forL body xs s
    | .brk => .ok .nxt s
    | .ret v => .ok (.ret v) s
def forR (n : Nat) (enum : Bool) (body : Val → St → Res St Flow) : Nat → Nat → St → Res St Flow
  | 0, _, _ => .stuck
  | k + 1, i, s => .get (itemAt n enum i s) fun o => match o with
    | none => .ok .nxt s
    | some x => (body x s).bind fun f s => match f with
      | .nxt => forR n enum body k (i + 1) s
      | .brk => .ok .nxt s
      | .ret v => .ok (.ret v) s
def whileL (test : St → Res St Bool) (body : St → Res St Flow) : Nat → St → Res St Flow
  | 0, _ => .stuck
  | k + 1, s => (test s).bind fun b s => if b then (body s).bind fun f s => match f with
    | .nxt => whileL test body k s
    | .brk => .ok .nxt s
    | .ret v => .ok (.ret v) s
    else .ok .nxt s
def srcOf (enum : Bool) (x : EV) (s : St) : Res St Src :=
  match x with
  | .val (.ref n) =>
    match s.h.c n with
    | some (.lst _) => .ok (.ref n enum) s
    | _ => .stuck
  | .val (.tup xs) => .ok (.xs (if enum then enumL 0 xs else xs)) s
  | .val (.lst xs) => .ok (.xs (if enum then enumL 0 xs else xs)) s
  | .val (.str z) => if enum then .stuck else .chk (z.length ≤ szL) (.ok (.xs (z.toList.map fun c => .str (chStr c))) s)
  | x => x.keep s fun v s => match v with
    | .lst xs => .ok (.xs (if enum then enumL 0 xs else xs)) s
    | _ => .stuck
/-- the comprehension's own names have no value outside of it -/
def wipe (l : List (Option SV)) : List Nat → List (Option SV)
  | [] => l
  | i :: r => (wipe l r).set i none
def setKey (x : EV) (k : String) (v : Val) (s : St) : Option St :=
  match x with
  | .val (.ref n) =>
    match s.h.c n with
    | some (.dct fs) => if fs.length < 1000 then some ⟨s.σ, s.h.set n (.dct (putF k v fs))⟩ else none
    | _ => none
  | _ => none
def setItem (x : EV) (i v : Val) (s : St) : Option St :=
  match x, i with
  | x, .int i => (x.list s).bind fun xs => (ixN xs.length i).bind fun j => x.put (xs.set j v) s
  | _, _ => none
def setFld (x : EV) (f : String) (cs : List String) (v : Val) (s : St) : Option St :=
  match x with
  | .val (.ref n) =>
    match s.h.c n with
    | some (.ins C fs) => if C ∈ cs ∧ fs.length < 1000 then some ⟨s.σ, s.h.set n (.ins C (putF f v fs))⟩ else none
    | _ => none
  | _ => none
/-- what an own == gives: a truth value -/
def eqR (r : Res AHeap Val) : Res AHeap Val :=
  match r with
  | .ok (.bl b) h => .ok (.bl b) h
  | _ => .stuck
/-- x == y of two instances of the class C -/
def eqoE (Γ : Env) (C : String) (x y : EV) (s : St) : Res St EV :=
  match x, y with
  | .val (.obj D fs), .val (.obj D' gs) => if D = C ∧ D' = C then lift s (eqR (Γ.call (C ++ ".__eq__") [.obj D fs, .obj D' gs] s.h)) else .stuck
  | _, _ => .stuck
/-- the own == of each two, in a heap without cells, answers True -/
def eqL (Γ : Env) (C : String) (n : Nat) : List Val → List Val → Bool
  | [], [] => true
  | .obj D fs :: xs, .obj D' gs :: ys =>
    if D = C ∧ D' = C then
      match Γ.call (C ++ ".__eq__") [.obj D fs, .obj D' gs] ⟨fun _ => none, n⟩ with
      | .ok (.bl true) _ => eqL Γ C n xs ys
      | _ => false
    else false
  | _, _ => false
/-- x == y of two lists of instances of the class C that are equal one by one -/
def eqlE (Γ : Env) (C : String) (x y : EV) (s : St) : Res St EV :=
  match x, y with
  | .val (.lst xs), .val (.lst ys) => if eqL Γ C s.h.next xs ys then .ok (.val (.bl true)) s else .stuck
  | _, _ => .stuck
/-- C(..): a new object, then __init__ -/
def mkE (Γ : Env) (C : String) (vs : List Val) (s : St) : Res St EV :=
  match Γ.call (C ++ ".__init__") (.ref s.h.next :: vs) (s.h.new (.ins C [])) with
  | .ok .non h =>
    if immC C then
      match h.c s.h.next with
      | some (.ins D fs) => if D = C then .ok (.val (.obj C fs)) ⟨s.σ, h.del s.h.next⟩ else .stuck
      | _ => .stuck
    else .ok (.val (.ref s.h.next)) ⟨s.σ, h⟩
  | .exc D v h => .exc D v ⟨s.σ, h⟩
  | _ => .stuck
/-- an instance of C that has no attribute m of its own -/
def isC (C m : String) (x : EV) (s : St) : Bool :=
  match x with
  | .val (.obj D fs) => decide (D = C) && (look m fs).isNone
  | .val (.ref n) =>
    match s.h.c n with
    | some (.ins D fs) => decide (D = C) && (look m fs).isNone
    | _ => false
  | _ => false
def Tgs.len : Tgs → Nat
  | .nil => 0
  | .cons _ r => r.len + 1
mutual
/-- the names that a target stores -/
def Tg.slots : Tg → List Nat
  | .name i => [i]
  | .tup ts => ts.slots
  | _ => []
def Tgs.slots : Tgs → List Nat
  | .nil => []
  | .cons t r => t.slots ++ r.slots
end
mutual
def ev (Γ : Env) : E → St → Res St EV
  | .c v, s => .ok (.val v) s
  | .var i, s => .get (s.σ[i]?) fun o => match o with
    | some (.v x) => .ok (.val x) s
    | some (.own _) => .ok (.own i) s
    | _ => .stuck
  | .op o a b, s => (ev Γ a s).bind fun x s => (ev Γ b s).bind fun y s => op2 o x y s
  | .ch o1 o2 a b c, s => (ev Γ a s).bind fun x s => (ev Γ b s).bind fun y s => (op2 o1 x y s).bind fun k s => match k with
    | .val (.bl true) => (ev Γ c s).bind fun z s => op2 o2 y z s
    | .val (.bl false) => .ok (.val (.bl false)) s
    | _ => .stuck
  | .isn a, s => (ev Γ a s).bind fun x s => .get (isNon x) fun k => .ok (.val (.bl k)) s
  | .isnt a, s => (ev Γ a s).bind fun x s => .get (isNon x) fun k => .ok (.val (.bl (!k))) s
  | .and a b, s => (ev Γ a s).bind fun x s => match x with
    | .val (.bl true) => ev Γ b s
    | .val (.bl false) => .ok (.val (.bl false)) s
    | _ => .stuck
  | .or a b, s => (ev Γ a s).bind fun x s => match x with
    | .val (.bl true) => .ok (.val (.bl true)) s
    | .val (.bl false) => ev Γ b s
    | _ => .stuck
  | .not a, s => (ev Γ a s).bind fun x s => match x with
    | .val (.bl k) => .ok (.val (.bl (!k))) s
    | _ => .stuck
  | .ite c a b, s => (tst Γ c s).bind fun k s => if k then ev Γ a s else ev Γ b s
  | .neg a, s => (ev Γ a s).bind fun x s => match x with
    | .val (.int i) => .ok (.val (.int (-i))) s
    | _ => .stuck
  | .tup es, s => (evv Γ es s).bind fun vs s => .chk (vs.length ≤ szL) (.ok (.val (.tup vs)) s)
  | .lst es, s => (evv Γ es s).bind fun vs s => .chk (vs.length ≤ szL) (.ok (.new vs) s)
  | .ix a i, s => (ev Γ a s).bind fun x s => (ev Γ i s).bind fun y s => match y with
    | .val j => .get (ixE x j s) fun v => .ok (.val v) s
    | _ => .stuck
  | .sl a lo hi l h, s => (ev Γ a s).bind fun x s => (ev Γ l s).bind fun y s => match y with
    | .val i => .get (optI lo i) fun p => (ev Γ h s).bind fun z s => match z with
      | .val j => .get (optI hi j) fun q => .get (slE x p q s) fun r => .ok r s
      | _ => .stuck
    | _ => .stuck
  | .rev a, s => (ev Γ a s).bind fun x s => .get (x.list s) fun xs => .ok (.new xs.reverse) s
  | .fld a f cs, s => (ev Γ a s).bind fun x s => .get (fldE x f cs s) fun v => .ok (.val v) s
  | .xat i, s => .get (s.σ[i]?) fun o => match o with
    | some (.exc _ v) => .ok (.val v) s
    | _ => .stuck
  | .xisi i cs, s => .get (s.σ[i]?) fun o => match o with
    | some (.exc C _) => .ok (.val (.bl (cs.any fun D => baseC C D))) s
    | _ => .stuck
  | .dix a k, s => (ev Γ a s).bind fun x s => .get (dixE x k s) fun v => .ok (.val v) s
  | .bm T b a es, s => (ev Γ a s).bind fun x s => .chk (recvOk T x s = true) ((evs Γ es s).bind fun xs s => bi b (x :: xs) s)
  | .bi b es, s => (evs Γ es s).bind fun xs s => bi b xs s
  | .isi a ts, s => (ev Γ a s).bind fun x s => .get (x.peek s) fun v => .get (ts.mapM fun t => ofT v t) fun bs => .ok (.val (.bl (bs.any id))) s
  | .eqo C a b, s => (ev Γ a s).bind fun x s => (ev Γ b s).bind fun y s => eqoE Γ C x y s
  | .eql C a b, s => (ev Γ a s).bind fun x s => (ev Γ b s).bind fun y s => eqlE Γ C x y s
  | .call f es, s => (evv Γ es s).bind fun vs s => lift s (Γ.call f vs s.h)
  | .mk C es, s => (evv Γ es s).bind fun vs s => mkE Γ C vs s
  | .meth C m a es, s => (ev Γ a s).bind fun x s => if isC C m x s then (evv Γ es s).bind fun vs s => match x with
    | .val v => lift s (Γ.call (C ++ "." ++ m) (v :: vs) s.h)
    | _ => .stuck
    else .stuck
  | .prop C m a, s => (ev Γ a s).bind fun x s => if isC C m x s then match x with
    | .val v => .quiet (lift s (Γ.call (C ++ "." ++ m) [v] s.h))
    | _ => .stuck
    else .stuck
  | .comp it t cond elt own, s => (evi Γ it s).bind fun src s0 => .quiet <|
      let body := fun (x : Val) (s : St) => (asg Γ t (.val x) ⟨wipe s.σ own, s.h⟩).bind fun _ s => (tst Γ cond s).bind fun k s => if k then (ev Γ elt s).bind fun y s => y.keep s fun v s => .ok (some v) s else .ok none s
      (match src with
      | .xs l => compL body l [] s0
      | .ref n en => compR n en body Γ.lim 0 [] s0).bind fun vs s => .ok (.new vs) ⟨wipe s.σ own, s.h⟩
  | .heap e, s => (ev Γ e s).bind fun x s => match x with
    | .new xs => .ok (.val (.ref s.h.next)) ⟨s.σ, s.h.new (.lst xs)⟩
    | _ => .stuck
  | .fmt es, s => (evs Γ es s).quiet.bind fun xs s => .get (fmtOf xs) fun z => .chk (z.length ≤ szL) (.ok (.val (.str z)) s)
  | .dct ks es, s => (evv Γ es s).bind fun vs s => .chk (ks.length = vs.length ∧ ks.Nodup) (.ok (.val (.ref s.h.next)) ⟨s.σ, s.h.new (.dct (ks.zip vs))⟩)
/-- a test -/
def tst (Γ : Env) : E → St → Res St Bool
  | .and a b, s => (tst Γ a s).bind fun k s => if k then tst Γ b s else .ok false s
  | .or a b, s => (tst Γ a s).bind fun k s => if k then .ok true s else tst Γ b s
  | .not a, s => (tst Γ a s).bind fun k s => .ok (!k) s
  | e, s => (ev Γ e s).bind fun x s => .get (truth x s) fun k => .ok k s
/-- things that a built-in takes -/
def evs (Γ : Env) : Es → St → Res St (List EV)
  | .nil, s => .ok [] s
  | .cons e r, s => (ev Γ e s).bind fun x s => (evs Γ r s).bind fun xs s => .ok (x :: xs) s
  | .star _ _, _ => .stuck
/-- values that are kept -/
def evv (Γ : Env) : Es → St → Res St (List Val)
  | .nil, s => .ok [] s
  | .cons e r, s => (ev Γ e s).bind fun x s => x.keep s fun v s => (evv Γ r s).bind fun vs s => .ok (v :: vs) s
  | .star e r, s => (ev Γ e s).bind fun x s => .get (x.seq s) fun ws => (evv Γ r s).bind fun vs s => .ok (ws ++ vs) s
def evi (Γ : Env) : It → St → Res St Src
  | .seq e, s => (ev Γ e s).bind fun x s => srcOf false x s
  | .enum e, s => (ev Γ e s).bind fun x s => srcOf true x s
  | .rng e, s => (ev Γ e s).bind fun x s => match x with
    | .val (.int n) => .chk (boundI n) (.ok (.xs (rngL 0 n.toNat)) s)
    | _ => .stuck
  | .rng2 a b, s => (ev Γ a s).bind fun x s => (ev Γ b s).bind fun y s => match x, y with
    | .val (.int i), .val (.int j) => .chk (boundI i ∧ boundI j) (.ok (.xs (rngL i (j - i).toNat)) s)
    | _, _ => .stuck
  | .zip a b, s => (ev Γ a s).bind fun x s => (ev Γ b s).bind fun y s => match x, y with
    | .val (.tup xs), .val (.tup ys) => .ok (.xs (zipL xs ys)) s
    | _, _ => .stuck
  | .rev e, s => (ev Γ e s).bind fun x s => match x with
    | .val (.tup xs) => .ok (.xs xs.reverse) s
    | _ => .stuck
def asg (Γ : Env) : Tg → EV → St → Res St Unit
  | .name i, x, s => match x with
    | .val v => .ok () (s.set i (.v v))
    | .new xs => .ok () (s.set i (.own xs))
    | x => x.keep s fun v s => .ok () (s.set i (.v v))
  | .tup ts, x, s => match x with
    | .val (.tup xs) => .chk (xs.length = ts.len) (asgs Γ ts xs s)
    | _ => .stuck
  | .sub a i, x, s => x.keep s fun v s => (ev Γ a s).bind fun o s => (ev Γ i s).bind fun j s => match j with
    | .val j => .get (setItem o j v s) fun s => .ok () s
    | _ => .stuck
  | .dsub a k, x, s => x.keep s fun v s => (ev Γ a s).bind fun o s => .get (setKey o k v s) fun s => .ok () s
  | .fld a f cs, x, s => x.keep s fun v s => (ev Γ a s).bind fun o s => .get (setFld o f cs v s) fun s => .ok () s
def asgs (Γ : Env) : Tgs → List Val → St → Res St Unit
  | .nil, xs, s => match xs with
    | [] => .ok () s
    | _ => .stuck
  | .cons t r, xs, s => match xs with
    | x :: xs => (asg Γ t (.val x) s).bind fun _ s => asgs Γ r xs s
    | [] => .stuck
end
/-- no name holds an exception -/
def noX (l : List (Option SV)) : Bool := l.all fun o => match o with
  | some (.exc _ _) => false
  | _ => true
def clsAt (h : AHeap) (n : Nat) : Option String :=
  match h.c n with
  | some (.ins C _) => some C
  | _ => none
/-- op= of numbers -/
def aug2 (o : Op2) (x y : EV) (s : St) : Res St EV :=
  match o, x, y with
  | .add, .val (.int i), .val (.int j) => .ok (.val (.int (i + j))) s
  | .sub, .val (.int i), .val (.int j) => .ok (.val (.int (i - j))) s
  | _, _, _ => .stuck
mutual
def exec (Γ : Env) : S → St → Res St Flow
  | .asg t e, s => (ev Γ e s).bind fun x s => (asg Γ t x s).bind fun _ s => .ok .nxt s
  | .aug o t e, s => match t with
    | .name i => (ev Γ (.var i) s).bind fun x s => (ev Γ e s).bind fun y s => (aug2 o x y s).bind fun z s => (asg Γ (.name i) z s).bind fun _ s => .ok .nxt s
    | .sub a i => (ev Γ a s).bind fun x s => (ev Γ i s).bind fun y s => match y with
      | .val (.int j) => .get (x.list s) fun xs => .get (atI xs j) fun v => (ev Γ e s).bind fun y s => (aug2 o (.val v) y s).bind fun z s => z.keep s fun w s => .get (setItem x (.int j) w s) fun s => .ok .nxt s
      | _ => .stuck
    | .fld a f cs => (ev Γ a s).bind fun x s => match x with
      | .val (.ref n) => .get (fldE (.val (.ref n)) f cs s) fun v => (ev Γ e s).bind fun y s2 => .chk (clsAt s2.h n = clsAt s.h n) ((aug2 o (.val v) y s2).bind fun z s => z.keep s fun w s => .get (setFld (.val (.ref n)) f cs w s) fun s => .ok .nxt s)
      | _ => .stuck
    | .tup _ => .stuck
    | .dsub _ _ => .stuck
  | .ret e, s => (ev Γ e s).bind fun x s => x.keep s fun v s => .ok (.ret v) s
  | .ex e, s => (ev Γ e s).bind fun _ s => .ok .nxt s
  | .ifs c a b, s => (tst Γ c s).bind fun k s => if k then execs Γ a s else execs Γ b s
  | .for t it b, s => (evi Γ it s).bind fun src s =>
      let body := fun (x : Val) (s : St) => (asg Γ t (.val x) s).bind fun _ s => execs Γ b s
      match src with
      | .xs l => forL body l s
      | .ref n en => forR n en body Γ.lim 0 s
  | .while c b, s => whileL (tst Γ c) (execs Γ b) Γ.lim s
  | .raise C e, s => (ev Γ e s).bind fun x s => x.keep s fun v s => .exc C v s
  | .try b C slot h els xs, s => if noX s.σ then match execs Γ b s with
    | .exc D v s => if D ∈ xs then (if baseC D C then (match slot with
        | none => (execs Γ h s).quiet
        | some i => (execs Γ h ⟨s.σ.set i (some (.exc D v)), s.h⟩).quiet.bind fun f s => .chk (noX (s.σ.set i none) = true) (.ok f ⟨s.σ.set i none, s.h⟩))
      else .exc D v s) else .stuck
    | .ok .nxt s => execs Γ els s
    | r => r
    else .stuck
  | .brk, s => .ok .brk s
def execs (Γ : Env) : Ss → St → Res St Flow
  | .nil, s => .ok .nxt s
  | .cons a r, s => (exec Γ a s).bind fun f s => match f with
    | .nxt => execs Γ r s
    | f => .ok f s
end
/-! ### defs -/
structure FDef where
  np : Nat
  n : Nat
  body : Ss
def start (d : FDef) (vs : List Val) : List (Option SV) := vs.map (fun v => some (.v v)) ++ List.replicate (d.n - d.np) none
def outOf (r : Res St Flow) : Res AHeap Val :=
  match r with
  | .ok .nxt s => .ok .non s.h
  | .ok (.ret x) s => .ok x s.h
  | .ok .brk _ => .stuck
  | .exc C v s => .exc C v s.h
  | .stuck => .stuck
abbrev Prog := String → Option FDef
def run (P : Prog) (lim : Nat) : Nat → String → List Val → AHeap → Res AHeap Val
  | 0, _, _, _ => .stuck
  | k + 1, f, vs, h =>
    match P f with
    | none => .stuck
    | some d => if vs.length = d.np then outOf (execs ⟨run P lim k, lim⟩ d.body ⟨start d vs, h⟩) else .stuck
end IA

set_option Elab.async false
set_option linter.all false
set_option maxRecDepth 100000
set_option maxHeartbeats 2000000
/-! ## The small machine and the model: what stands for what (own text) -/
namespace IS
open PySem PySem.Spec PyProof.Rows L2
/-! ### texts -/
theorem tl_of (s : String) : (Str.ofString s).cps.toList = s.toList.map Char.toNat := PyProof.Rows.signs_ofString s
theorem ext_tl' {x y : Str} (h : x.cps.toList = y.cps.toList) : x = y := TL.ext_tl h
theorem chn_inj : ∀ {l m : List Char}, l.map Char.toNat = m.map Char.toNat → l = m
  | [], [], _ => rfl
  | [], _ :: _, h => by simp at h
  | _ :: _, [], h => by simp at h
  | a :: l, b :: m, h => by
    simp only [List.map_cons, List.cons.injEq] at h
    have e : a = b := by
      have h1 : a.val.toNat = b.val.toNat := h.1
      exact Char.ext (UInt32.toNat_inj.mp h1)
    rw [e, chn_inj h.2]
theorem ofS_inj {a b : String} (h : Str.ofString a = Str.ofString b) : a = b := by
  have h1 := congrArg (fun z : Str => z.cps.toList) h
  simp only [tl_of] at h1
  exact String.toList_inj.mp (chn_inj h1)
theorem ofS_eq {a b : String} : Str.ofString a = Str.ofString b ↔ a = b := ⟨ofS_inj, fun h => by rw [h]⟩
theorem ofS_len (a : String) : (Str.ofString a).length = a.length := by
  have h := congrArg List.length (tl_of a)
  rw [List.length_map, String.length_toList] at h
  simpa [Str.length] using h
theorem ofS_app (a b : String) : Str.ofString (a ++ b) = Str.ofString a ++ Str.ofString b := ext_tl' (by
  rw [tl_of, String.toList_append, List.map_append]
  exact (TL.tl_append _ _ |>.trans (by rw [TL.tl_ofString, TL.tl_ofString])).symm)
/-! ### situations -/
structure Sit where
  M : Addr → Prop
  T : Addr → Prop
  R : Nat → Option Addr
  H : Hp
structure Le (s s' : Sit) : Prop where
  keep : ∀ b o, ¬ s.M b → s.H b = some o → s'.H b = some o
  imm : ∀ b o, BL.Imm o → s.H b = some o → s'.H b = some o
  trk : ∀ b o, s.H b = some o → ∃ o', s'.H b = some o'
  mu : ∀ b, s'.M b → s.M b ∨ s.H b = none
  thr : ∀ b, s'.T b → s.T b ∨ s.H b = none
  tkp : ∀ b o, s.H b = some o → s.T b → ¬ s.M b → s'.T b
  ref : ∀ n a, s.R n = some a → s'.R n = some a
  rnew : ∀ n a, s'.R n = some a → s.R n = some a ∨ s.H a = none
theorem Le.refl (s : Sit) : Le s s := ⟨fun _ _ _ h => h, fun _ _ _ h => h, fun _ o h => ⟨o, h⟩, fun _ h => .inl h, fun _ h => .inl h, fun _ _ _ h _ => h, fun _ _ h => h, fun _ _ h => .inl h⟩
theorem Le.fresh {s s' : Sit} (l : Le s s') {b : Addr} (h : s'.H b = none) : s.H b = none := by
  cases q : s.H b with
  | none => rfl
  | some o =>
    obtain ⟨o', e⟩ := l.trk b o q
    rw [h] at e
    cases e
theorem Le.trans {s s1 s2 : Sit} (a : Le s s1) (b : Le s1 s2) : Le s s2 where
  keep := fun c o n e => b.keep c o (fun z => (a.mu c z).elim n fun q => by rw [q] at e; cases e) (a.keep c o n e)
  imm := fun c o i e => b.imm c o i (a.imm c o i e)
  trk := fun c o e => let ⟨o', e'⟩ := a.trk c o e; b.trk c o' e'
  mu := fun c h => (b.mu c h).elim (a.mu c) fun q => .inr (a.fresh q)
  thr := fun c h => (b.thr c h).elim (a.thr c) fun q => .inr (a.fresh q)
  tkp := fun c o e t n => let ⟨o', e'⟩ := a.trk c o e; b.tkp c o' e' (a.tkp c o e t n) fun z => (a.mu c z).elim n fun q => by rw [q] at e; cases e
  ref := fun n x h => b.ref n x (a.ref n x h)
  rnew := fun n x h => (b.rnew n x h).elim (a.rnew n x) fun q => .inr (a.fresh q)
/-- the exception that a suite handles: its address, its own dict, its class -/
abbrev XC := Option (Addr × Addr × String)
def fieldX (C : String) : String := if C = "TooLarge" then "what" else "at"
/-- a list that is not changed -/
def FqL (K : PySem.W.Frag) (s : Sit) (a : Addr) (us : List V) : Prop := ¬ s.T a ∧ s.H a = some (.lst us)
mutual
/-- the value v of the machine stands for x -/
def RV (K : PySem.W.Frag) (xc : XC) (s : Sit) : IA.Val → V → Prop
  | .non, v => v = .non
  | .bl b, v => v = .bl b
  | .int i, v => v = .int i
  | .str z, v => v = .str (Str.ofString z)
  | .tup xs, v => ∃ a us, v = .ref a ∧ SqT K s.H a us ∧ RVs K xc s xs us
  | .lst xs, v => ∃ a us, v = .ref a ∧ FqL K s a us ∧ RVs K xc s xs us
  | .obj C fs, v => ∃ a dx us, v = .ref a ∧ ¬ s.T a ∧ s.H a = some (.ins (He.ga K (Str.ofString C)) dx us) ∧ RFs K xc s fs us
  | .ref n, v => ∃ a, v = .ref a ∧ s.R n = some a
  | .scr xs, v => ∃ a us, v = .ref a ∧ BL.SqF K s.H a us ∧ RVs K xc s xs us
def RVs (K : PySem.W.Frag) (xc : XC) (s : Sit) : List IA.Val → List V → Prop
  | [], us => us = []
  | x :: xs, us => ∃ v vs, us = v :: vs ∧ RV K xc s x v ∧ RVs K xc s xs vs
def RFs (K : PySem.W.Frag) (xc : XC) (s : Sit) : List (String × IA.Val) → List (Str × V) → Prop
  | [], us => us = []
  | (f, x) :: xs, us => ∃ v vs, us = (Str.ofString f, v) :: vs ∧ RV K xc s x v ∧ RFs K xc s xs vs
end
section
variable {K : PySem.W.Frag} {xc : XC} {s s' : Sit}
/-- what values lean on -/
structure LeV (s s' : Sit) : Prop where
  keep : ∀ b o, ¬ s.T b → s.H b = some o → s'.H b = some o
  imm : ∀ b o, BL.Imm o → s.H b = some o → s'.H b = some o
  thr : ∀ b, s'.T b → s.T b ∨ s.H b = none
  ref : ∀ n a, s.R n = some a → s'.R n = some a
theorem Le.v (mt : ∀ b, s.M b → s.T b) (l : Le s s') : LeV s s' := ⟨fun b o n e => l.keep b o (fun z => n (mt b z)) e, l.imm, l.thr, l.ref⟩
theorem SqF.mono {a : Addr} {us : List V} (l : LeV s s') (h : BL.SqF K s.H a us) : BL.SqF K s'.H a us := by
  rcases h with ⟨o, h⟩ | h
  · exact .inl ⟨o, l.imm _ _ trivial h⟩
  · exact .inr h
theorem FqL.mono {a : Addr} {us : List V} (l : LeV s s') (h : FqL K s a us) : FqL K s' a us := by
  obtain ⟨n, h⟩ := h
  · refine ⟨fun z => (l.thr a z).elim n fun q => by (rw [q] at h; cases h), l.keep a _ n h⟩
theorem SqT.mono {a : Addr} {us : List V} (l : LeV s s') (h : SqT K s.H a us) : SqT K s'.H a us := by
  rcases h with (h | ⟨o, h⟩) | h
  · exact .inl (.inl (l.imm _ _ trivial h))
  · exact .inl (.inr ⟨o, l.imm _ _ trivial h⟩)
  · exact .inr h
theorem FqL.rd {a : Addr} {us : List V} (h : FqL K s a us) : Rd s.H a (.lst us) := by
  exact .inl h.2
mutual
theorem RV.monoV (l : LeV s s') : ∀ (x : IA.Val) (v : V), RV K xc s x v → RV K xc s' x v
  | .non, _, h => by simpa only [RV] using h
  | .bl _, _, h => by simpa only [RV] using h
  | .int _, _, h => by simpa only [RV] using h
  | .str _, _, h => by simpa only [RV] using h
  | .tup xs, _, h => by
    simp only [RV] at h ⊢
    obtain ⟨a, us, e, q, r⟩ := h
    exact ⟨a, us, e, SqT.mono l q, RVs.monoV l xs us r⟩
  | .lst xs, _, h => by
    simp only [RV] at h ⊢
    obtain ⟨a, us, e, q, r⟩ := h
    exact ⟨a, us, e, FqL.mono l q, RVs.monoV l xs us r⟩
  | .obj C fs, _, h => by
    simp only [RV] at h ⊢
    obtain ⟨a, dx, us, e, n, q, r⟩ := h
    exact ⟨a, dx, us, e, fun z => (l.thr a z).elim n fun w => by (rw [w] at q; cases q), l.keep a _ n q, RFs.monoV l fs us r⟩
  | .ref n, _, h => by
    simp only [RV] at h ⊢
    obtain ⟨a, e, q⟩ := h
    exact ⟨a, e, l.ref n a q⟩
  | .scr xs, _, h => by
    simp only [RV] at h ⊢
    obtain ⟨a, us, e, q, r⟩ := h
    exact ⟨a, us, e, SqF.mono l q, RVs.monoV l xs us r⟩
theorem RVs.monoV (l : LeV s s') : ∀ (x : List IA.Val) (v : List V), RVs K xc s x v → RVs K xc s' x v
  | [], _, h => by simpa only [RVs] using h
  | x :: xs, _, h => by
    simp only [RVs] at h ⊢
    obtain ⟨v, vs, e, r, t⟩ := h
    exact ⟨v, vs, e, RV.monoV l x v r, RVs.monoV l xs vs t⟩
theorem RFs.monoV (l : LeV s s') : ∀ (x : List (String × IA.Val)) (v : List (Str × V)), RFs K xc s x v → RFs K xc s' x v
  | [], _, h => by simpa only [RFs] using h
  | (f, x) :: xs, _, h => by
    simp only [RFs] at h ⊢
    obtain ⟨v, vs, e, r, t⟩ := h
    exact ⟨v, vs, e, RV.monoV l x v r, RFs.monoV l xs vs t⟩
end
theorem RV.mono (mt : ∀ b, s.M b → s.T b) (l : Le s s') : ∀ (x : IA.Val) (v : V), RV K xc s x v → RV K xc s' x v := RV.monoV (l.v mt)
theorem RVs.mono (mt : ∀ b, s.M b → s.T b) (l : Le s s') : ∀ (x : List IA.Val) (v : List V), RVs K xc s x v → RVs K xc s' x v := RVs.monoV (l.v mt)
theorem RFs.mono (mt : ∀ b, s.M b → s.T b) (l : Le s s') : ∀ (x : List (String × IA.Val)) (v : List (Str × V)), RFs K xc s x v → RFs K xc s' x v := RFs.monoV (l.v mt)
/-! ### lists of values -/
theorem RVs.len : ∀ {xs : List IA.Val} {us : List V}, RVs K xc s xs us → us.length = xs.length
  | [], _, h => by simp only [RVs] at h; subst h; rfl
  | x :: xs, _, h => by
    simp only [RVs] at h
    obtain ⟨v, vs, rfl, _, t⟩ := h
    simp [RVs.len t]
theorem RVs.get : ∀ {xs : List IA.Val} {us : List V} {i : Nat} {x : IA.Val}, RVs K xc s xs us → xs[i]? = some x → ∃ u, us[i]? = some u ∧ RV K xc s x u
  | [], _, _, _, _, e => by simp at e
  | y :: xs, _, 0, x, h, e => by
    simp only [RVs] at h
    obtain ⟨v, vs, rfl, r, t⟩ := h
    simp at e; subst e
    exact ⟨v, rfl, r⟩
  | y :: xs, _, i + 1, x, h, e => by
    simp only [RVs] at h
    obtain ⟨v, vs, rfl, r, t⟩ := h
    obtain ⟨u, h1, h2⟩ := RVs.get (i := i) t (by simpa using e)
    exact ⟨u, by simpa using h1, h2⟩
theorem RVs.nil : RVs K xc s [] [] := by simp only [RVs]
theorem RVs.cons {x : IA.Val} {v : V} {xs : List IA.Val} {vs : List V} (h : RV K xc s x v) (t : RVs K xc s xs vs) : RVs K xc s (x :: xs) (v :: vs) := by
  simp only [RVs]; exact ⟨v, vs, rfl, h, t⟩
theorem RVs.app : ∀ {xs ys : List IA.Val} {us vs : List V}, RVs K xc s xs us → RVs K xc s ys vs → RVs K xc s (xs ++ ys) (us ++ vs)
  | [], _, _, _, h, g => by simp only [RVs] at h; subst h; exact g
  | x :: xs, ys, _, _, h, g => by
    simp only [RVs] at h
    obtain ⟨v, vs, rfl, r, t⟩ := h
    exact RVs.cons r (RVs.app t g)
theorem RVs.take : ∀ {n : Nat} {xs : List IA.Val} {us : List V}, RVs K xc s xs us → RVs K xc s (xs.take n) (us.take n)
  | 0, _, _, _ => RVs.nil
  | n + 1, [], _, h => by simp only [RVs] at h; subst h; exact RVs.nil
  | n + 1, x :: xs, _, h => by
    simp only [RVs] at h
    obtain ⟨v, vs, rfl, r, t⟩ := h
    exact RVs.cons r (RVs.take t)
theorem RVs.drop : ∀ {n : Nat} {xs : List IA.Val} {us : List V}, RVs K xc s xs us → RVs K xc s (xs.drop n) (us.drop n)
  | 0, _, _, h => h
  | n + 1, [], _, h => by simp only [RVs] at h; subst h; exact RVs.nil
  | n + 1, x :: xs, _, h => by
    simp only [RVs] at h
    obtain ⟨v, vs, rfl, r, t⟩ := h
    show RVs K xc s (xs.drop n) (vs.drop n)
    exact RVs.drop t
theorem RVs.rev : ∀ {xs : List IA.Val} {us : List V}, RVs K xc s xs us → RVs K xc s xs.reverse us.reverse
  | [], _, h => by simp only [RVs] at h; subst h; exact RVs.nil
  | x :: xs, _, h => by
    simp only [RVs] at h
    obtain ⟨v, vs, rfl, r, t⟩ := h
    rw [List.reverse_cons, List.reverse_cons]
    exact RVs.app (RVs.rev t) (RVs.cons r RVs.nil)
theorem RVs.set : ∀ {xs : List IA.Val} {us : List V} {x : IA.Val} {u : V} (i : Nat), RV K xc s x u → RVs K xc s xs us → RVs K xc s (xs.set i x) (us.set i u)
  | [], _, _, _, _, _, h => by simp only [RVs] at h; subst h; exact RVs.nil
  | y :: xs, _, x, u, 0, r, h => by
    simp only [RVs] at h
    obtain ⟨v, vs, rfl, _, t⟩ := h
    exact RVs.cons r t
  | y :: xs, _, x, u, i + 1, r, h => by
    simp only [RVs] at h
    obtain ⟨v, vs, rfl, q, t⟩ := h
    exact RVs.cons q (RVs.set i r t)
theorem RVs.rep {xs : List IA.Val} {us : List V} (h : RVs K xc s xs us) : ∀ n, RVs K xc s (List.replicate n xs).flatten (List.replicate n us).flatten
  | 0 => RVs.nil
  | n + 1 => by
    rw [List.replicate_succ, List.replicate_succ, List.flatten_cons, List.flatten_cons]
    exact RVs.app h (RVs.rep h n)
/-! ### fields -/
theorem RFs.look : ∀ {fs : List (String × IA.Val)} {us : List (Str × V)} {f : String}, RFs K xc s fs us → (∀ x, IA.look f fs = some x → ∃ u, us.lookup (Str.ofString f) = some u ∧ RV K xc s x u) ∧ (IA.look f fs = none → us.lookup (Str.ofString f) = none)
  | [], _, f, h => by
    simp only [RFs] at h; subst h
    exact ⟨fun x e => by simp [IA.look] at e, fun _ => rfl⟩
  | (g, y) :: fs, _, f, h => by
    simp only [RFs] at h
    obtain ⟨v, vs, rfl, r, t⟩ := h
    obtain ⟨t1, t2⟩ := RFs.look (f := f) t
    simp only [IA.look, List.lookup]
    by_cases e : g = f
    · subst e
      simp only [if_true, beq_self_eq_true]
      exact ⟨fun x q => by cases q; exact ⟨v, rfl, r⟩, fun q => by cases q⟩
    · have n : (Str.ofString f == Str.ofString g) = false := beq_eq_false_iff_ne.mpr fun z => e (ofS_inj z).symm
      rw [if_neg e, n]
      exact ⟨t1, t2⟩
theorem RFs.len : ∀ {fs : List (String × IA.Val)} {us : List (Str × V)}, RFs K xc s fs us → us.length = fs.length
  | [], _, h => by simp only [RFs] at h; subst h; rfl
  | (f, x) :: fs, _, h => by
    simp only [RFs] at h
    obtain ⟨v, vs, rfl, _, t⟩ := h
    simp [RFs.len t]
theorem RFs.put {f : String} {x : IA.Val} {u : V} (r : RV K xc s x u) : ∀ {fs : List (String × IA.Val)} {us : List (Str × V)}, RFs K xc s fs us → RFs K xc s (IA.putF f x fs) (L2.putF (Str.ofString f) u us)
  | [], _, h => by
    simp only [RFs] at h; subst h
    simp only [IA.putF, L2.putF, RFs]
    exact ⟨u, [], rfl, r, rfl⟩
  | (g, y) :: fs, _, h => by
    simp only [RFs] at h
    obtain ⟨v, vs, rfl, q, t⟩ := h
    simp only [IA.putF, L2.putF]
    by_cases e : g = f
    · subst e
      rw [if_pos rfl, if_pos rfl]
      simp only [RFs]
      exact ⟨u, vs, rfl, r, t⟩
    · rw [if_neg e, if_neg (fun z => e (ofS_inj z))]
      simp only [RFs]
      exact ⟨v, _, rfl, q, RFs.put r t⟩
end

/-! ### a state stands -/
def RC (K : PySem.W.Frag) (xc : XC) (s : Sit) (a : Addr) : IA.Cell → Prop
  | .lst xs => ∃ us, s.H a = some (.lst us) ∧ RVs K xc s xs us
  | .ins C fs => ∃ dx us, s.H a = some (.ins (He.ga K (Str.ofString C)) dx us) ∧ RFs K xc s fs us
  | .dct fs => ∃ kvs : List (Str × V), s.H a = some (.dK (kvs.map fun p => (Sum.inr p.1, p.2))) ∧ RFs K xc s fs kvs ∧ (kvs.map (·.1)).Nodup
structure HRel (K : PySem.W.Frag) (xc : XC) (s : Sit) (h : IA.AHeap) : Prop where
  mt : ∀ b, s.M b → s.T b
  ex : ∀ b, s.T b → ∃ o, s.H b = some o
  rex : ∀ n a, s.R n = some a → ∃ o, s.H a = some o
  inj : ∀ n m a, s.R n = some a → s.R m = some a → n = m
  nxt : ∀ n, h.next ≤ n → s.R n = none
  cell : ∀ n c, h.c n = some c → ∃ a, s.R n = some a ∧ s.M a ∧ RC K xc s a c
/-- an exception held by a name stands as it stood -/
structure Rel (K : PySem.W.Frag) (xc : XC) (s : Sit) (σ : L2.St) (st : IA.St) : Prop where
  hp : HRel K xc s st.h
  exs : ∀ (i : Nat) C x, st.σ[i]? = some (some (IA.SV.exc C x)) → ∃ a d u, xc = some (a, d, C) ∧ σ[i]? = some (some (V.ref a)) ∧ ¬ s.T d ∧ s.H d = some (.xd [(Str.ofString (fieldX C), u)]) ∧ RV K xc s x u
  len : st.σ.length = σ.length
  slot : ∀ (i : Nat) x, st.σ[i]? = some (some (IA.SV.v x)) → ∃ u, σ[i]? = some (some u) ∧ RV K xc s x u
  own : ∀ (i : Nat) xs, st.σ[i]? = some (some (IA.SV.own xs)) → ∃ a us, σ[i]? = some (some (V.ref a)) ∧ s.M a ∧ s.H a = some (.lst us) ∧ RVs K xc s xs us
  oinj : ∀ (i j : Nat) xs ys a, st.σ[i]? = some (some (IA.SV.own xs)) → st.σ[j]? = some (some (IA.SV.own ys)) → σ[i]? = some (some (V.ref a)) → σ[j]? = some (some (V.ref a)) → i = j
  ohp : ∀ (i : Nat) xs a n, st.σ[i]? = some (some (IA.SV.own xs)) → σ[i]? = some (some (V.ref a)) → s.R n ≠ some a
section
variable {K : PySem.W.Frag} {xc : XC} {s s' : Sit} {σ : L2.St} {st : IA.St} {h : IA.AHeap}
theorem RC.mono {a : Addr} {c : IA.Cell} (mt : ∀ b, s.M b → s.T b) (l : Le s s') (e : s'.H a = s.H a) (r : RC K xc s a c) : RC K xc s' a c := by
  cases c with
  | lst xs => obtain ⟨us, h, r⟩ := r; exact ⟨us, by rw [e]; exact h, RVs.mono mt l _ _ r⟩
  | ins C fs => obtain ⟨dx, us, h, r⟩ := r; exact ⟨dx, us, by rw [e]; exact h, RFs.mono mt l _ _ r⟩
  | dct fs => obtain ⟨us, h, r, nd⟩ := r; exact ⟨us, by rw [e]; exact h, RFs.mono mt l _ _ r, nd⟩
/-- nothing mutable changed -/
theorem HRel.grow (r : HRel K xc s h) (l : Le s s') (hM : ∀ b, s.M b → s'.M b ∧ s'.H b = s.H b) (mt : ∀ b, s'.M b → s'.T b) (ex : ∀ b, s'.T b → ∃ o, s'.H b = some o) (hR : s'.R = s.R) : HRel K xc s' h where
  mt := mt
  ex := ex
  rex := fun n a q => by
    rw [hR] at q
    obtain ⟨o, e⟩ := r.rex n a q
    exact l.trk a o e
  inj := by rw [hR]; exact r.inj
  nxt := by rw [hR]; exact r.nxt
  cell := fun n c q => by
    obtain ⟨a, h1, h2, h3⟩ := r.cell n c q
    exact ⟨a, by rw [hR]; exact h1, (hM a h2).1, h3.mono r.mt l (hM a h2).2⟩
theorem Rel.grow (r : Rel K xc s σ st) (l : Le s s') (hM : ∀ b, s.M b → s'.M b ∧ s'.H b = s.H b) (mt : ∀ b, s'.M b → s'.T b) (ex : ∀ b, s'.T b → ∃ o, s'.H b = some o) (hR : s'.R = s.R) : Rel K xc s' σ st where
  hp := r.hp.grow l hM mt ex hR
  exs := fun i C x e => by
    obtain ⟨a, d, u, h1, h2, h3, h4, h5⟩ := r.exs i C x e
    exact ⟨a, d, u, h1, h2, fun z => (l.thr d z).elim h3 fun y => by (rw [y] at h4; cases h4), l.keep d _ (fun z => h3 (r.hp.mt d z)) h4, RV.mono r.hp.mt l _ _ h5⟩
  len := r.len
  slot := fun i x e => let ⟨u, h1, h2⟩ := r.slot i x e; ⟨u, h1, RV.mono r.hp.mt l _ _ h2⟩
  own := fun i xs e => let ⟨a, us, h1, h2, h3, h4⟩ := r.own i xs e; ⟨a, us, h1, (hM a h2).1, by rw [(hM a h2).2]; exact h3, RVs.mono r.hp.mt l _ _ h4⟩
  oinj := r.oinj
  ohp := by rw [hR]; exact r.ohp
theorem Rel.exsM (r : Rel K xc s σ st) (l : Le s s') : ∀ (i : Nat) C x, st.σ[i]? = some (some (IA.SV.exc C x)) → ∃ a d u, xc = some (a, d, C) ∧ σ[i]? = some (some (V.ref a)) ∧ ¬ s'.T d ∧ s'.H d = some (.xd [(Str.ofString (fieldX C), u)]) ∧ RV K xc s' x u := fun i C x e => by
  obtain ⟨a, d, u, h1, h2, h3, h4, h5⟩ := r.exs i C x e
  exact ⟨a, d, u, h1, h2, fun z => (l.thr d z).elim h3 fun y => by (rw [y] at h4; cases h4), l.keep d _ (fun z => h3 (r.hp.mt d z)) h4, RV.mono r.hp.mt l _ _ h5⟩
/-- a new object that is not changed -/
def Sit.add (s : Sit) (p : Addr) (o : HO) : Sit := { s with H := upd s.H p o }
theorem Le.add {p : Addr} {o : HO} (n : s.H p = none) : Le s (s.add p o) where
  keep := fun b u _ e => by show upd s.H p o b = some u; rw [upd_ne (ne_of_none e n)]; exact e
  imm := fun b u _ e => by show upd s.H p o b = some u; rw [upd_ne (ne_of_none e n)]; exact e
  trk := fun b u e => ⟨u, by show upd s.H p o b = some u; rw [upd_ne (ne_of_none e n)]; exact e⟩
  mu := fun _ h => .inl h
  thr := fun _ h => .inl h
  tkp := fun _ _ _ h _ => h
  ref := fun _ _ h => h
  rnew := fun _ _ h => .inl h
theorem Rel.add {p : Addr} {o : HO} (r : Rel K xc s σ st) (n : s.H p = none) : Rel K xc (s.add p o) σ st :=
  r.grow (Le.add n) (fun b m => ⟨m, by
    obtain ⟨u, e⟩ := r.hp.ex b (r.hp.mt b m)
    show upd s.H p o b = s.H b
    rw [upd_ne (ne_of_none e n)]⟩) r.hp.mt (fun b t => let ⟨u, e⟩ := r.hp.ex b t; (Le.add n).trk b u e) rfl
theorem HRel.noT (r : HRel K xc s h) {p : Addr} (n : s.H p = none) : ¬ s.T p := fun t => by
  obtain ⟨u, e⟩ := r.ex p t
  rw [n] at e
  cases e
/-! ### what an expression gives -/
def RVE (K : PySem.W.Frag) (xc : XC) (s : Sit) (σ : L2.St) : IA.EV → V → Hp → Prop
  | .val v, u, H' => H' = s.H ∧ RV K xc s v u
  | .own i, u, H' => H' = s.H ∧ σ[i]? = some (some u)
  | .new xs, u, H' => ∃ p us, u = .ref p ∧ s.H p = none ∧ H' = upd s.H p (.lst us) ∧ RVs K xc s xs us
def RVW (K : PySem.W.Frag) (xc : XC) (s : Sit) (σ : L2.St) : IA.EV → V → Prop
  | .val v, u => RV K xc s v u
  | .own i, u => σ[i]? = some (some u)
  | .new xs, u => ∃ a us, u = .ref a ∧ ¬ s.T a ∧ s.H a = some (.lst us) ∧ RVs K xc s xs us
theorem RVE.weak {x : IA.EV} {u : V} {H' : Hp} (r : Rel K xc s σ st) (h : RVE K xc s σ x u H') : ∃ s', Le s s' ∧ s'.H = H' ∧ Rel K xc s' σ st ∧ RVW K xc s' σ x u := by
  cases x with
  | val v => exact ⟨s, Le.refl s, h.1.symm, r, h.2⟩
  | own i => exact ⟨s, Le.refl s, h.1.symm, r, h.2⟩
  | new xs =>
    obtain ⟨p, us, rfl, n, rfl, q⟩ := h
    refine ⟨s.add p (.lst us), Le.add n, rfl, r.add n, ?_⟩
    exact ⟨p, us, rfl, r.hp.noT n, upd_same, RVs.mono r.hp.mt (Le.add n) _ _ q⟩
theorem RVW.mono {x : IA.EV} {u : V} (mt : ∀ b, s.M b → s.T b) (l : Le s s') (h : RVW K xc s σ x u) : RVW K xc s' σ x u := by
  cases x with
  | val v => exact RV.mono mt l _ _ h
  | own i => exact h
  | new xs =>
    obtain ⟨a, us, e, n, q, r⟩ := h
    exact ⟨a, us, e, fun z => (l.thr a z).elim n fun w => by (rw [w] at q; cases q), l.keep a _ (fun z => n (mt a z)) q, RVs.mono mt l _ _ r⟩
theorem RVW.newV {xs : List IA.Val} {u : V} (h : RVW K xc s σ (.new xs) u) : RV K xc s (.lst xs) u := by
  obtain ⟨a, us, e, n, q, r⟩ := h
  simp only [RV]
  exact ⟨a, us, e, ⟨n, q⟩, r⟩
theorem RV.lstE {xs : List IA.Val} {u : V} (h : RV K xc s (.lst xs) u) : ∃ a us, u = .ref a ∧ FqL K s a us ∧ RVs K xc s xs us := by simpa only [RV] using h
theorem RV.tupE {xs : List IA.Val} {u : V} (h : RV K xc s (.tup xs) u) : ∃ a us, u = .ref a ∧ SqT K s.H a us ∧ RVs K xc s xs us := by simpa only [RV] using h
theorem RV.refE {n : Nat} {u : V} (h : RV K xc s (.ref n) u) : ∃ a, u = .ref a ∧ s.R n = some a := by simpa only [RV] using h
theorem RVW.list {x : IA.EV} {u : V} {xs : List IA.Val} (r : Rel K xc s σ st) (h : RVW K xc s σ x u) (e : x.list st = some xs) : ∃ a us, u = .ref a ∧ s.H a = some (.lst us) ∧ RVs K xc s xs us := by
  unfold IA.EV.list at e
  split at e
  · cases e
    obtain ⟨a, us, h1, h2, h3⟩ := RV.lstE (RVW.newV h)
    exact ⟨a, us, h1, h2.2, h3⟩
  · rename_i i
    have h' : σ[i]? = some (some u) := h
    split at e
    · rename_i ys q
      cases e
      obtain ⟨a, us, h1, h2, h3, h4⟩ := r.own i _ q
      rw [h'] at h1
      cases h1
      exact ⟨a, us, rfl, h3, h4⟩
    · rename_i ys q
      cases e
      obtain ⟨w, h1, h2⟩ := r.slot i _ q
      rw [h'] at h1
      cases h1
      obtain ⟨a, us, h1, h2, h3⟩ := RV.lstE h2
      exact ⟨a, us, h1, h2.2, h3⟩
    · cases e
  · cases e
    obtain ⟨a, us, h1, h2, h3⟩ := RV.lstE h
    exact ⟨a, us, h1, h2.2, h3⟩
  · rename_i n
    obtain ⟨a, h1, h2⟩ := RV.refE (K := K) (xc := xc) (s := s) h
    split at e
    · rename_i ys q
      cases e
      obtain ⟨b, h3, h4, us, h5, h6⟩ := r.hp.cell n _ q
      rw [h2] at h3
      cases h3
      exact ⟨a, us, h1, h5, h6⟩
    · cases e
  · cases e
theorem RVW.seq {x : IA.EV} {u : V} {xs : List IA.Val} (r : Rel K xc s σ st) (h : RVW K xc s σ x u) (e : x.seq st = some xs) : ∃ a us, u = .ref a ∧ (SqL K s.H a us ∨ SqT K s.H a us) ∧ RVs K xc s xs us := by
  unfold IA.EV.seq at e
  split at e
  · cases e
    obtain ⟨a, us, h1, h2, h3⟩ := RV.tupE h
    exact ⟨a, us, h1, .inr h2, h3⟩
  · cases e
    obtain ⟨a, us, h1, h2, h3⟩ : ∃ a us, u = .ref a ∧ BL.SqF K s.H a us ∧ RVs K xc s xs us := by simpa only [RVW, RV] using h
    exact ⟨a, us, h1, .inl h2.l, h3⟩
  · obtain ⟨a, us, h1, h2, h3⟩ := RVW.list r h e
    exact ⟨a, us, h1, .inl (SqL.of h2), h3⟩
end
end IS

set_option Elab.async false
set_option linter.all false
set_option maxRecDepth 100000
set_option maxHeartbeats 2000000
/-! ## The small machine's steps are the model's (own text) -/
namespace IS
open PySem PySem.Spec PyProof.Rows L2
/-! ### what is wanted behind a step -/
def PostX (K : PySem.W.Frag) (xc : XC) (s : Sit) (σ : L2.St) (W : WX) (C : String) (v : IA.Val) (st' : IA.St) : Prop :=
  ∀ s' d u, Le s s' → Rel K xc s' σ st' → ¬ s'.T d → s'.H d = some (.xd [(Str.ofString (fieldX C), u)]) → RV K xc s' v u → W (.ref (He.ga K (Str.ofString C))) (some d) σ s'.H
def Post {β : Type} (K : PySem.W.Frag) (xc : XC) (s : Sit) (σ : L2.St) (W : WX) (N : Sit → β → IA.St → Prop) : IA.Res IA.St β → Prop
  | .ok b st' => ∀ s', Le s s' → Rel K xc s' σ st' → N s' b st'
  | .exc C v st' => PostX K xc s σ W C v st'
  | .stuck => False
section
variable {K : PySem.W.Frag} {xc : XC} {s s' : Sit} {σ : L2.St} {W : WX} {α β : Type} {N : Sit → β → IA.St → Prop} {N1 : Sit → α → IA.St → Prop} {st : IA.St}
theorem Post.mono {r : IA.Res IA.St β} (h : Post K xc s σ W N r) (l : Le s s') : Post K xc s' σ W N r := by
  cases r with
  | ok b st' => exact fun s2 l2 r2 => h s2 (l.trans l2) r2
  | exc C v st' => exact fun s2 d u l2 => h s2 d u (l.trans l2)
  | stuck => exact h
theorem Post.bind {r : IA.Res IA.St α} {f : α → IA.St → IA.Res IA.St β} (h : Post K xc s σ W N (r.bind f))
    (k : ∀ a st' s', Le s s' → Rel K xc s' σ st' → Post K xc s' σ W N (f a st') → N1 s' a st') : Post K xc s σ W N1 r := by
  cases r with
  | ok a st' => exact fun s' l r' => k a st' s' l r' (Post.mono h l)
  | exc C v st' => exact h
  | stuck => exact h
theorem Post.get {o : Option α} {f : α → IA.Res IA.St β} (h : Post K xc s σ W N (IA.Res.get o f)) : ∃ a, o = some a ∧ Post K xc s σ W N (f a) := by
  cases o with
  | none => exact h.elim
  | some a => exact ⟨a, rfl, h⟩
theorem Post.chk {c : Prop} [Decidable c] {r : IA.Res IA.St β} (h : Post K xc s σ W N (IA.Res.chk c r)) : c ∧ Post K xc s σ W N r := by
  unfold IA.Res.chk at h
  split at h
  · exact ⟨by assumption, h⟩
  · exact h.elim
theorem Post.ok {b : β} (h : Post K xc s σ W N (.ok b st)) (r : Rel K xc s σ st) : N s b st := h s (Le.refl s) r
end
/-- an expression's wish -/
abbrev NE (K : PySem.W.Frag) (xc : XC) (σ : L2.St) (Q : VK) : Sit → IA.EV → IA.St → Prop := fun s' x _ => ∀ u H', RVE K xc s' σ x u H' → Q u H'
abbrev NT (Q : Bool → Hp → Prop) : Sit → Bool → IA.St → Prop := fun s' k _ => Q k s'.H
abbrev NV (K : PySem.W.Frag) (xc : XC) (Q : List V → Hp → Prop) : Sit → List IA.Val → IA.St → Prop := fun s' vs _ => ∀ us, RVs K xc s' vs us → Q us s'.H
def RWs (K : PySem.W.Frag) (xc : XC) (s : Sit) (σ : L2.St) : List IA.EV → List V → Prop
  | [], us => us = []
  | x :: xs, us => ∃ v vs, us = v :: vs ∧ RVW K xc s σ x v ∧ RWs K xc s σ xs vs
abbrev NW (K : PySem.W.Frag) (xc : XC) (σ : L2.St) (Q : List V → Hp → Prop) : Sit → List IA.EV → IA.St → Prop := fun s' xs _ => ∀ us, RWs K xc s' σ xs us → Q us s'.H
structure SE (Γ : IA.Env) (X : Cx) (xc : XC) (W : WX) (e : Expr) (a : IA.E) : Prop where
  ex : ∃ t : TE, PE X e t ∧ ∀ s σ st, Rel X.K xc s σ st → ∀ Q, Post X.K xc s σ W (NE X.K xc σ Q) (IA.ev Γ a st) → t σ s.H Q
structure ST (Γ : IA.Env) (X : Cx) (xc : XC) (W : WX) (e : Expr) (a : IA.E) : Prop where
  ex : ∃ t : TT, PT X e t ∧ ∀ s σ st, Rel X.K xc s σ st → ∀ Q, Post X.K xc s σ W (NT Q) (IA.tst Γ a st) → t σ s.H Q
/-- kept values -/
structure SV (Γ : IA.Env) (X : Cx) (xc : XC) (W : WX) (es : List Expr) (a : IA.Es) : Prop where
  ex : ∃ t : TA, PA X es t ∧ ∀ s σ st, Rel X.K xc s σ st → ∀ Q, Post X.K xc s σ W (NV X.K xc Q) (IA.evv Γ a st) → t σ s.H Q
/-- a built-in's arguments -/
structure SW (Γ : IA.Env) (X : Cx) (xc : XC) (W : WX) (es : List Expr) (a : IA.Es) : Prop where
  ex : ∃ t : TA, PA X es t ∧ ∀ s σ st, Rel X.K xc s σ st → ∀ Q, Post X.K xc s σ W (NW X.K xc σ Q) (IA.evs Γ a st) → t σ s.H Q
section
variable {Γ : IA.Env} {X : Cx} {xc : XC} {W : WX} {s s' : Sit} {σ : L2.St} {st : IA.St} {β : Type} {N : Sit → β → IA.St → Prop}
/-- behind an expression, weakly -/
theorem bindE {r : IA.Res IA.St IA.EV} {f : IA.EV → IA.St → IA.Res IA.St β} {Q : VK} (h : Post X.K xc s σ W N (r.bind f))
    (k : ∀ x st' s' u, Le s s' → Rel X.K xc s' σ st' → RVW X.K xc s' σ x u → Post X.K xc s' σ W N (f x st') → Q u s'.H) : Post X.K xc s σ W (NE X.K xc σ Q) r := by
  refine Post.bind h fun x st' s' l r' q u H' e => ?_
  obtain ⟨s2, l2, e2, r2, w⟩ := e.weak r'
  rw [← e2]
  exact k x st' s2 u (l.trans l2) r2 w (q.mono l2)
/-- the value is kept -/
theorem keep_ok {K : PySem.W.Frag} {α : Type} {x : IA.EV} {f : IA.Val → IA.St → IA.Res IA.St α} {u : V} (r : Rel K xc s σ st) (w : RVW K xc s σ x u) :
    x.keep st f = .stuck ∨ ∃ v st' s', Le s s' ∧ s'.H = s.H ∧ Rel K xc s' σ st' ∧ RV K xc s' v u ∧ x.keep st f = f v st' := by
  unfold IA.EV.keep
  split
  · exact .inr ⟨_, st, s, Le.refl s, rfl, r, w, rfl⟩
  · exact .inr ⟨_, st, s, Le.refl s, rfl, r, RVW.newV w, rfl⟩
  · rename_i i
    have w' : σ[i]? = some (some u) := w
    split
    · rename_i xs q
      obtain ⟨a, us, h1, h2, h3, h4⟩ := r.own i _ q
      rw [w'] at h1
      cases h1
      have l : Le s { s with M := fun b => s.M b ∧ b ≠ a, T := fun b => s.T b ∧ b ≠ a } :=
        ⟨fun _ _ _ e => e, fun _ _ _ e => e, fun _ o e => ⟨o, e⟩, fun _ z => .inl z.1, fun _ z => .inl z.1, fun b o _ t n => ⟨t, fun z => n (z ▸ h2)⟩, fun _ _ e => e, fun _ _ e => .inl e⟩
      have hx : RV K xc { s with M := fun b => s.M b ∧ b ≠ a, T := fun b => s.T b ∧ b ≠ a } (.lst xs) (.ref a) := by
        simp only [RV]
        exact ⟨a, us, rfl, ⟨fun z => z.2 rfl, h3⟩, RVs.mono r.hp.mt l _ _ h4⟩
      refine .inr ⟨_, _, { s with M := fun b => s.M b ∧ b ≠ a, T := fun b => s.T b ∧ b ≠ a }, l, rfl, ?_, hx, rfl⟩
      have hne : ∀ (j : Nat) (ys : List IA.Val) b, j ≠ i → st.σ[j]? = some (some (IA.SV.own ys)) → σ[j]? = some (some (V.ref b)) → b ≠ a := fun j ys b hj e1 e2 z => by
        subst z
        exact hj (r.oinj j i ys xs b e1 q e2 w')
      refine ⟨⟨fun b z => ⟨r.hp.mt b z.1, z.2⟩, fun b z => r.hp.ex b z.1, r.hp.rex, r.hp.inj, r.hp.nxt, fun n c e => ?_⟩, fun j C y e => ?_, by simpa [IA.St.set] using r.len, fun j x e => ?_, fun j ys e => ?_, fun j k xs' ys b e1 e2 => ?_, fun j ys b n e1 => ?_⟩
      · obtain ⟨b, g1, g2, g3⟩ := r.hp.cell n c e
        exact ⟨b, g1, ⟨g2, fun z => r.ohp i xs a n q w' (z ▸ g1)⟩, g3.mono r.hp.mt l rfl⟩
      · simp only [IA.St.set] at e
        by_cases hj : j = i
        · subst hj
          have hlt : j < st.σ.length := (List.getElem?_eq_some_iff.mp q).1
          rw [List.getElem?_set_self hlt] at e
          cases e
        · rw [List.getElem?_set_ne (Ne.symm hj)] at e
          exact r.exsM l j C y e
      · simp only [IA.St.set] at e
        by_cases hj : j = i
        · subst hj
          have hlt : j < st.σ.length := (List.getElem?_eq_some_iff.mp q).1
          rw [List.getElem?_set_self hlt] at e
          cases e
          exact ⟨_, w', hx⟩
        · rw [List.getElem?_set_ne (Ne.symm hj)] at e
          obtain ⟨v, g1, g2⟩ := r.slot j x e
          exact ⟨v, g1, RV.mono r.hp.mt l _ _ g2⟩
      · simp only [IA.St.set] at e
        by_cases hj : j = i
        · subst hj
          have hlt : j < st.σ.length := (List.getElem?_eq_some_iff.mp q).1
          rw [List.getElem?_set_self hlt] at e
          cases e
        · rw [List.getElem?_set_ne (Ne.symm hj)] at e
          obtain ⟨b, vs, g1, g2, g3, g4⟩ := r.own j ys e
          exact ⟨b, vs, g1, ⟨g2, hne j ys b hj e g1⟩, g3, RVs.mono r.hp.mt l _ _ g4⟩
      · have f : ∀ (j : Nat) (zs : List IA.Val), (st.set i (.v (.lst xs))).σ[j]? = some (some (IA.SV.own zs)) → st.σ[j]? = some (some (IA.SV.own zs)) := fun j zs e => by
          simp only [IA.St.set] at e
          by_cases hj : j = i
          · subst hj
            have hlt : j < st.σ.length := (List.getElem?_eq_some_iff.mp q).1
            rw [List.getElem?_set_self hlt] at e
            cases e
          · rwa [List.getElem?_set_ne (Ne.symm hj)] at e
        exact r.oinj j k xs' ys b (f j _ e1) (f k _ e2)
      · simp only [IA.St.set] at e1
        by_cases hj : j = i
        · subst hj
          have hlt : j < st.σ.length := (List.getElem?_eq_some_iff.mp q).1
          rw [List.getElem?_set_self hlt] at e1
          cases e1
        · rw [List.getElem?_set_ne (Ne.symm hj)] at e1
          exact r.ohp j ys b n e1
    · rename_i xs q
      obtain ⟨v, h1, h2⟩ := r.slot i _ q
      rw [w'] at h1
      cases h1
      exact .inr ⟨_, st, s, Le.refl s, rfl, r, h2, rfl⟩
    · exact .inl rfl
theorem Post.keep {K : PySem.W.Frag} {x : IA.EV} {f : IA.Val → IA.St → IA.Res IA.St β} {u : V} (r : Rel K xc s σ st) (w : RVW K xc s σ x u) (h : Post K xc s σ W N (x.keep st f)) :
    ∃ v st' s', Le s s' ∧ s'.H = s.H ∧ Rel K xc s' σ st' ∧ RV K xc s' v u ∧ Post K xc s' σ W N (f v st') := by
  rcases keep_ok (f := f) r w with e | ⟨v, st', s', l, e, r', rv, e2⟩
  · rw [e] at h; exact h.elim
  · rw [e2] at h; exact ⟨v, st', s', l, e, r', rv, h.mono l⟩
end
/-! ### constants and names -/
section
variable {Γ : IA.Env} {X : Cx} {xc : XC} {W : WX} {e a b c : Expr} {ea eb ec : IA.E} {pos : Pos}
theorem se_pure {t : TE} {v : IA.Val} {u : V} (h : PE X e t) (ht : ∀ σ H Q, Q u H → t σ H Q) (hv : ∀ s : Sit, RV X.K xc s v u) : SE Γ X xc W e (.c v) :=
  ⟨t, h, fun s σ st r Q q => by
    simp only [IA.ev] at q
    exact ht σ s.H Q (Post.ok (N := NE X.K xc σ Q) q r u s.H ⟨rfl, hv s⟩)⟩
theorem se_int {i : Int} {j} : SE Γ X xc W (.Constant (.int i) j pos) (.c (.int i)) := se_pure pe_int (fun _ _ _ h => h) fun s => by simp only [RV]
theorem se_bl {i : Bool} {j} : SE Γ X xc W (.Constant (.bool i) j pos) (.c (.bl i)) := se_pure pe_bl (fun _ _ _ h => h) fun s => by simp only [RV]
theorem se_non {j} : SE Γ X xc W (.Constant .none j pos) (.c .non) := se_pure pe_non (fun _ _ _ h => h) fun s => by simp only [RV]
theorem se_var {i : Nat} (h : PE X e (tVar i)) : SE Γ X xc W e (.var i) := by
  refine ⟨_, h, fun s σ st r Q q => ?_⟩
  simp only [IA.ev] at q
  obtain ⟨o, ho, q⟩ := Post.get q
  cases o with
  | none => exact q.elim
  | some w =>
    cases w with
    | v x =>
      obtain ⟨u, h1, h2⟩ := r.slot i x ho
      exact ⟨u, h1, Post.ok (N := NE X.K xc σ Q) q r u s.H ⟨rfl, h2⟩⟩
    | own xs =>
      obtain ⟨b, us, h1, h2, h3, h4⟩ := r.own i xs ho
      exact ⟨_, h1, Post.ok (N := NE X.K xc σ Q) q r _ s.H ⟨rfl, h1⟩⟩
    | exc C x => exact q.elim
end

/-! ### operators -/
def OpOk (K : PySem.W.Frag) (xc : XC) (W : WX) (o : IA.Op2) (r : R2) : Prop :=
  ∀ s σ st x y u v Q, Rel K xc s σ st → RVW K xc s σ x u → RVW K xc s σ y v → Post K xc s σ W (NE K xc σ Q) (IA.op2 o x y st) → r u v s.H Q
section
variable {Γ : IA.Env} {X : Cx} {xc : XC} {W : WX} {e a b c : Expr} {ea eb ec : IA.E} {pos : Pos} {o : IA.Op2} {r : R2}
theorem op_read {ta tb : TE} {s : Sit} {σ : L2.St} {st : IA.St} (ok : OpOk X.K xc W o r) (rel : Rel X.K xc s σ st)
    (fa : ∀ s σ st, Rel X.K xc s σ st → ∀ Q, Post X.K xc s σ W (NE X.K xc σ Q) (IA.ev Γ ea st) → ta σ s.H Q)
    (fb : ∀ s σ st, Rel X.K xc s σ st → ∀ Q, Post X.K xc s σ W (NE X.K xc σ Q) (IA.ev Γ eb st) → tb σ s.H Q) {Q : VK}
    (h : Post X.K xc s σ W (NE X.K xc σ Q) ((IA.ev Γ ea st).bind fun x s => (IA.ev Γ eb s).bind fun y s => IA.op2 o x y s)) : tOp r ta tb σ s.H Q := by
  refine fa s σ st rel _ (bindE h fun x st1 s1 u l1 r1 w1 q1 => ?_)
  refine fb s1 σ st1 r1 _ (bindE q1 fun y st2 s2 v l2 r2 w2 q2 => ?_)
  exact ok s2 σ st2 x y u v Q r2 (w1.mono r1.hp.mt l2) w2 q2
theorem se_bin {op : Operator} (ho : OpR X (binaryOp op) r) (ok : OpOk X.K xc W o r) (ha : SE Γ X xc W a ea) (hb : SE Γ X xc W b eb) : SE Γ X xc W (.BinOp a op b pos) (.op o ea eb) := by
  obtain ⟨ta, pa, fa⟩ := ha.ex
  obtain ⟨tb, pb, fb⟩ := hb.ex
  exact ⟨_, pe_op ho pa pb, fun s σ st rel Q h => op_read ok rel fa fb (by simpa only [IA.ev] using h)⟩
theorem se_cmp {op : CmpOp} (ho : OpR X (compareOp op) r) (ok : OpOk X.K xc W o r) (ha : SE Γ X xc W a ea) (hb : SE Γ X xc W b eb) (hm : behindInMarks op b = false) : SE Γ X xc W (.Compare a [op] [b] pos) (.op o ea eb) := by
  obtain ⟨ta, pa, fa⟩ := ha.ex
  obtain ⟨tb, pb, fb⟩ := hb.ex
  exact ⟨_, pe_cmpR ho pa pb hm, fun s σ st rel Q h => op_read ok rel fa fb (by simpa only [IA.ev] using h)⟩
end
section
variable {K : PySem.W.Frag} {xc : XC} {W : WX} {s : Sit} {σ : L2.St} {st : IA.St} {Q : VK}
theorem fin {v : IA.Val} {u : V} (h : Post K xc s σ W (NE K xc σ Q) (.ok (.val v) st)) (r : Rel K xc s σ st) (e : RV K xc s v u) : Q u s.H := Post.ok (N := NE K xc σ Q) h r u s.H ⟨rfl, e⟩
theorem finI {i : Int} (h : Post K xc s σ W (NE K xc σ Q) (.ok (.val (.int i)) st)) (r : Rel K xc s σ st) : Q (.int i) s.H := fin h r (by simp only [RV])
theorem finB {i : Bool} (h : Post K xc s σ W (NE K xc σ Q) (.ok (.val (.bl i)) st)) (r : Rel K xc s σ st) : Q (.bl i) s.H := fin h r (by simp only [RV])
theorem finS {i : String} (h : Post K xc s σ W (NE K xc σ Q) (.ok (.val (.str i)) st)) (r : Rel K xc s σ st) : Q (.str (Str.ofString i)) s.H := fin h r (by simp only [RV])
theorem finL {xs : List IA.Val} (h : Post K xc s σ W (NE K xc σ Q) (.ok (.new xs) st)) (r : Rel K xc s σ st) {us : List V} (e : RVs K xc s xs us) {p : Addr} (n : s.H p = none) : Q (.ref p) (upd s.H p (.lst us)) :=
  Post.ok (N := NE K xc σ Q) h r (.ref p) _ ⟨p, us, rfl, n, rfl, e⟩
theorem finT {xs : List IA.Val} (h : Post K xc s σ W (NE K xc σ Q) (.ok (.val (.tup xs)) st)) (r : Rel K xc s σ st) {us : List V} (e : RVs K xc s xs us) {p : Addr} (n : s.H p = none) : Q (.ref p) (upd s.H p (.tup us)) := by
  have h2 := h (s.add p (.tup us)) (Le.add n) (r.add n)
  refine h2 (.ref p) _ ⟨rfl, ?_⟩
  simp only [RV]
  exact ⟨p, us, rfl, SqT.of upd_same, RVs.mono r.hp.mt (Le.add n) _ _ e⟩
theorem RVW.i {i : Int} {u : V} (h : RVW K xc s σ (.val (.int i)) u) : u = .int i := by simpa only [RVW, RV] using h
theorem RVW.b {i : Bool} {u : V} (h : RVW K xc s σ (.val (.bl i)) u) : u = .bl i := by simpa only [RVW, RV] using h
theorem RVW.str {i : String} {u : V} (h : RVW K xc s σ (.val (.str i)) u) : u = .str (Str.ofString i) := by simpa only [RVW, RV] using h
theorem RVW.n {u : V} (h : RVW K xc s σ (.val .non) u) : u = .non := by simpa only [RVW, RV] using h
theorem RVW.t {xs : List IA.Val} {u : V} (h : RVW K xc s σ (.val (.tup xs)) u) : ∃ a us, u = .ref a ∧ SqT K s.H a us ∧ RVs K xc s xs us := RV.tupE (by simpa only [RVW] using h)
theorem szL_eq : IA.szL = sizeLine := by rw [sizeLine_eq]; rfl
theorem RVs.nil_iff {xs : List IA.Val} {us : List V} (h : RVs K xc s xs us) : us = [] ↔ xs = [] := by
  have e := h.len
  constructor
  · intro z; subst z; exact List.eq_nil_of_length_eq_zero e.symm
  · intro z; subst z; exact List.eq_nil_of_length_eq_zero e
theorem ok_add : OpOk K xc W .add (BL.uAdd K) := by
  intro s σ st x y u v Q r rx ry h
  unfold IA.op2 at h
  split at h
  all_goals try contradiction
  · cases rx.i; cases ry.i
    exact .inl ⟨_, _, rfl, rfl, finI h r⟩
  · cases rx.str; cases ry.str
    obtain ⟨hz, h⟩ := Post.chk h
    refine .inr (.inl ⟨_, _, rfl, rfl, by rw [ofS_len, ofS_len, ← szL_eq]; exact hz, ?_⟩)
    rw [← ofS_app]
    exact finS h r
  · obtain ⟨a, us, rfl, ha, ra⟩ := rx.t
    obtain ⟨b, vs, rfl, hb, rb⟩ := ry.t
    obtain ⟨hz, h⟩ := Post.chk h
    refine .inr (.inr (.inr ⟨a, b, us, vs, rfl, rfl, ha, hb, by rw [ra.len, rb.len, ← szL_eq]; exact hz, fun e => ?_, fun e e2 => ?_, fun _ _ p n => finT h r (ra.app rb) n⟩))
    · have e' := ra.nil_iff.mp e
      subst e'
      refine fin h r ?_
      simp only [RV]
      exact ⟨b, vs, rfl, hb, rb⟩
    · have e' := rb.nil_iff.mp e2
      subst e'
      refine fin h r ?_
      simp only [RV, List.append_nil]
      exact ⟨a, us, rfl, ha, ra⟩
  · obtain ⟨xs, ex, h⟩ := Post.get h
    obtain ⟨ys, ey, h⟩ := Post.get h
    obtain ⟨hz, h⟩ := Post.chk h
    obtain ⟨a, us, rfl, ha, ra⟩ := rx.list r ex
    obtain ⟨b, vs, rfl, hb, rb⟩ := ry.list r ey
    exact .inr (.inr (.inl ⟨a, b, us, vs, rfl, rfl, .inl ha, .inl hb, by rw [ra.len, rb.len, ← szL_eq]; exact hz, fun p n => finL h r (ra.app rb) n⟩))
theorem ok_sub : OpOk K xc W .sub BL.uSub := by
  intro s σ st x y u v Q r rx ry h
  unfold IA.op2 at h
  split at h
  all_goals try contradiction
  · cases rx.i; cases ry.i
    exact ⟨_, _, rfl, rfl, finI h r⟩
theorem ok_mul : OpOk K xc W .mul (BL.uMul K) := by
  intro s σ st x y u v Q r rx ry h
  unfold IA.op2 at h
  split at h
  all_goals try contradiction
  · cases rx.i; cases ry.i
    obtain ⟨hc, h⟩ := Post.chk h
    exact .inl ⟨_, _, rfl, rfl, hc, finI h r⟩
  · cases ry.i
    obtain ⟨a, us, rfl, na, ha, ra⟩ := rx
    obtain ⟨⟨h1, h2, h3⟩, h⟩ := Post.chk h
    exact .inr ⟨a, _, us, rfl, rfl, ha, h1, h2, by rw [ra.len, ← szL_eq]; exact h3, fun p n => finL h r (ra.rep _) n⟩
theorem ok_fdiv : OpOk K xc W .fdiv BL.uFdiv := by
  intro s σ st x y u v Q r rx ry h
  unfold IA.op2 at h
  split at h
  all_goals try contradiction
  · cases rx.i; cases ry.i
    obtain ⟨hc, h⟩ := Post.chk h
    exact ⟨_, _, rfl, rfl, hc, finI h r⟩
theorem ok_mod : OpOk K xc W .mod BL.uMod := by
  intro s σ st x y u v Q r rx ry h
  unfold IA.op2 at h
  split at h
  all_goals try contradiction
  · cases rx.i; cases ry.i
    obtain ⟨hc, h⟩ := Post.chk h
    exact ⟨_, _, rfl, rfl, hc, finI h r⟩
theorem ok_pow : OpOk K xc W .pow BL.uPow := by
  intro s σ st x y u v Q r rx ry h
  unfold IA.op2 at h
  split at h
  all_goals try contradiction
  · cases rx.i; cases ry.i
    obtain ⟨hc, h⟩ := Post.chk h
    exact ⟨_, _, rfl, rfl, hc, finI h r⟩
theorem ok_lt : OpOk K xc W .lt BL.uLt := by
  intro s σ st x y u v Q r rx ry h
  unfold IA.op2 at h
  split at h
  all_goals try contradiction
  · cases rx.i; cases ry.i
    exact ⟨_, _, rfl, rfl, finB h r⟩
theorem ok_le : OpOk K xc W .le BL.uLe := by
  intro s σ st x y u v Q r rx ry h
  unfold IA.op2 at h
  split at h
  all_goals try contradiction
  · cases rx.i; cases ry.i
    exact .inl ⟨_, _, rfl, rfl, finB h r⟩
  · cases rx.str; cases ry.str
    refine .inr ⟨_, _, rfl, rfl, ?_⟩
    rw [tl_of, tl_of]
    exact finB h r
theorem ok_gt : OpOk K xc W .gt BL.uGt := by
  intro s σ st x y u v Q r rx ry h
  unfold IA.op2 at h
  split at h
  all_goals try contradiction
  · cases rx.i; cases ry.i
    exact ⟨_, _, rfl, rfl, finB h r⟩
theorem ok_ge : OpOk K xc W .ge BL.uGe := by
  intro s σ st x y u v Q r rx ry h
  unfold IA.op2 at h
  split at h
  all_goals try contradiction
  · cases rx.i; cases ry.i
    exact ⟨_, _, rfl, rfl, finB h r⟩
end

/-! ### equality -/
mutual
def toD : IA.Val → PyData
  | .non => .none
  | .bl b => .bool b
  | .int i => .int i
  | .str z => .str (Str.ofString z)
  | .tup xs => .tuple (toDs xs)
  | .lst xs => .list (toDs xs)
  | _ => .none
def toDs : List IA.Val → List PyData
  | [] => []
  | x :: xs => toD x :: toDs xs
end
theorem strOk_of (z : String) : PyData.strOk (Str.ofString z) = true := by
  unfold PyData.strOk
  rw [← Array.all_toList, tl_of, List.all_map, List.all_eq_true]
  intro c _
  have hc : c.val.toNat < 1114112 := by
    have h := c.valid
    simp only [UInt32.isValidChar, Nat.isValidChar] at h
    omega
  simpa using hc
mutual
theorem toD_good : ∀ x, IA.good x = true → BL.good (toD x) = true
  | .non, _ => rfl
  | .bl _, h => by simp [IA.good] at h
  | .int _, _ => rfl
  | .str z, _ => strOk_of z
  | .tup xs, h => toDs_good xs (by simpa only [IA.good] using h)
  | .lst xs, h => toDs_good xs (by simpa only [IA.good] using h)
  | .obj _ _, h => by simp [IA.good] at h
  | .ref _, h => by simp [IA.good] at h
  | .scr _, h => by simp [IA.good] at h
theorem toDs_good : ∀ xs, IA.goodL xs = true → BL.goodL (toDs xs) = true
  | [], _ => rfl
  | x :: xs, h => by
    simp only [IA.goodL, Bool.and_eq_true] at h
    simp only [toDs, BL.goodL, Bool.and_eq_true]
    exact ⟨toD_good x h.1, toDs_good xs h.2⟩
end
mutual
theorem toD_same : ∀ x y, IA.good x = true → IA.good y = true → BL.dsame (toD x) (toD y) = IA.veq x y
  | .bl _, _, h, _ => by simp [IA.good] at h
  | .obj _ _, _, h, _ => by simp [IA.good] at h
  | .ref _, _, h, _ => by simp [IA.good] at h
  | .scr _, _, h, _ => by simp [IA.good] at h
  | .non, y, _, h => by cases y <;> simp_all [toD, BL.dsame, IA.veq, IA.good]
  | .int i, y, _, h => by cases y <;> simp_all [toD, BL.dsame, IA.veq, IA.good]
  | .str i, y, _, h => by cases y <;> simp_all [toD, BL.dsame, IA.veq, IA.good, ofS_eq]
  | .tup xs, y, h1, h2 => by
    cases y with
    | tup ys => simp only [toD, BL.dsame, IA.veq]; exact toDs_same xs ys (by simpa only [IA.good] using h1) (by simpa only [IA.good] using h2)
    | _ => simp_all [toD, BL.dsame, IA.veq, IA.good]
  | .lst xs, y, h1, h2 => by
    cases y with
    | lst ys => simp only [toD, BL.dsame, IA.veq]; exact toDs_same xs ys (by simpa only [IA.good] using h1) (by simpa only [IA.good] using h2)
    | _ => simp_all [toD, BL.dsame, IA.veq, IA.good]
theorem toDs_same : ∀ xs ys, IA.goodL xs = true → IA.goodL ys = true → BL.dsameL (toDs xs) (toDs ys) = IA.veqL xs ys
  | [], [], _, _ => rfl
  | [], _ :: _, _, _ => rfl
  | _ :: _, [], _, _ => rfl
  | x :: xs, y :: ys, h1, h2 => by
    simp only [IA.goodL, Bool.and_eq_true] at h1 h2
    simp only [toDs, BL.dsameL, IA.veqL, toD_same x y h1.1 h2.1, toDs_same xs ys h1.2 h2.2]
end
mutual
theorem toD_dep : ∀ x, PyData.depth (toD x) = IA.dep x
  | .non => rfl
  | .bl _ => rfl
  | .int _ => rfl
  | .str z => rfl
  | .tup xs => by simp only [toD, PyData.depth, IA.dep, toDs_dep xs]
  | .lst xs => by simp only [toD, PyData.depth, IA.dep, toDs_dep xs]
  | .obj _ _ => rfl
  | .ref _ => rfl
  | .scr _ => rfl
theorem toDs_dep : ∀ xs, PyData.depthAll (toDs xs) = IA.depL xs
  | [] => rfl
  | x :: xs => by simp only [toDs, PyData.depthAll, IA.depL, toD_dep x, toDs_dep xs]
end
section
variable {K : PySem.W.Frag} {xc : XC} {W : WX} {s : Sit} {σ : L2.St} {st : IA.St} {Q : VK}
mutual
theorem RV.dp : ∀ (x : IA.Val) (u : V), IA.good x = true → RV K xc s x u → Dp K s.H u (toD x)
  | .non, _, _, h => by simp only [RV] at h; subst h; exact .non
  | .bl _, _, g, _ => by simp [IA.good] at g
  | .int _, _, _, h => by simp only [RV] at h; subst h; exact .int _
  | .str _, _, _, h => by simp only [RV] at h; subst h; exact .str _
  | .tup xs, _, g, h => by
    obtain ⟨a, us, rfl, q, r⟩ := h.tupE
    exact .tup q (RVs.dp xs us (by simpa only [IA.good] using g) r)
  | .lst xs, _, g, h => by
    obtain ⟨a, us, rfl, q, r⟩ := h.lstE
    exact .lst (.inl q.rd) (RVs.dp xs us (by simpa only [IA.good] using g) r)
  | .obj _ _, _, g, _ => by simp [IA.good] at g
  | .ref _, _, g, _ => by simp [IA.good] at g
  | .scr _, _, g, _ => by simp [IA.good] at g
theorem RVs.dp : ∀ (xs : List IA.Val) (us : List V), IA.goodL xs = true → RVs K xc s xs us → DpAll K s.H us (toDs xs)
  | [], _, _, h => by simp only [RVs] at h; subst h; exact .nil
  | x :: xs, _, g, h => by
    simp only [IA.goodL, Bool.and_eq_true] at g
    simp only [RVs] at h
    obtain ⟨v, vs, rfl, r, t⟩ := h
    exact .cons (RV.dp x v g.1 r) (RVs.dp xs vs g.2 t)
end
theorem RVW.peek {x : IA.EV} {u : V} {v : IA.Val} (r : Rel K xc s σ st) (h : RVW K xc s σ x u) (e : x.peek st = some v) (g : IA.good v = true) : Dp K s.H u (toD v) := by
  have viaL : ∀ {x : IA.EV}, RVW K xc s σ x u → (x.list st).map .lst = some v → Dp K s.H u (toD v) := fun {x} h e => by
    cases q : x.list st with
    | none => rw [q] at e; cases e
    | some xs =>
      rw [q] at e
      cases e
      obtain ⟨a, us, rfl, ha, ra⟩ := h.list r q
      exact .lst (SqL.of ha) (RVs.dp xs us (by simpa only [IA.good] using g) ra)
  unfold IA.EV.peek at e
  split at e
  · exact viaL h e
  · cases e
    exact RV.dp _ _ g h
  · exact viaL h e
theorem shaped_toD {v : IA.Val} (g : IA.good v = true) (d : IA.dep v ≤ 60) : SeqAt.shaped (toD v) = true := BL.shaped_of (BL.good_lay _ (toD_good v g)) (by rw [toD_dep]; omega)
/-- the value of a thing that is a scalar -/
theorem RVW.peekV {x : IA.EV} {u : V} {v : IA.Val} (h : RVW K xc s σ x u) (e : x.peek st = some v) (hv : ∀ xs, v ≠ .lst xs) : x = .val v ∧ RV K xc s v u := by
  unfold IA.EV.peek at e
  split at e
  · rename_i n
    cases q : (IA.EV.val (IA.Val.ref n)).list st with
    | none => rw [q] at e; cases e
    | some xs => rw [q] at e; cases e; exact absurd rfl (hv xs)
  · cases e
    exact ⟨rfl, h⟩
  · rename_i q
    cases q : x.list st with
    | none => rw [q] at e; cases e
    | some xs => rw [q] at e; cases e; exact absurd rfl (hv xs)
theorem eq_read {x y : IA.EV} {u v : V} {a b : IA.Val} {k : Bool} (r : Rel K xc s σ st) (rx : RVW K xc s σ x u) (ry : RVW K xc s σ y v) (ex : x.peek st = some a) (ey : y.peek st = some b) (e : IA.eqV a b = some k) :
    (scal u v = true ∧ decide (u = v) = k) ∨ ∃ d e, Dp K s.H u d ∧ Dp K s.H v e ∧ SeqAt.shaped d = true ∧ SeqAt.shaped e = true ∧ PyData.eqv d e = k := by
  unfold IA.eqV at e
  split at e
  · cases e
    have h1 := (rx.peekV ex (fun _ z => nomatch z)).2
    have h2 := (ry.peekV ey (fun _ z => nomatch z)).2
    simp only [RV] at h1 h2
    subst h1; subst h2
    exact .inl ⟨rfl, dec_bl⟩
  · cases e
    have h1 := (rx.peekV ex (fun _ z => nomatch z)).2
    have h2 := (ry.peekV ey (fun _ z => nomatch z)).2
    simp only [RV] at h1 h2
    subst h1; subst h2
    exact .inl ⟨rfl, by simp⟩
  · cases e
    have h1 := (rx.peekV ex (fun _ z => nomatch z)).2
    have h2 := (ry.peekV ey (fun _ z => nomatch z)).2
    simp only [RV] at h1 h2
    subst h1; subst h2
    exact .inl ⟨rfl, by simp⟩
  · split at e
    · rename_i hg
      simp only [Bool.and_eq_true, decide_eq_true_eq] at hg
      cases e
      refine .inr ⟨toD a, toD b, rx.peek r ex hg.1.1.1, ry.peek r ey hg.1.1.2, shaped_toD hg.1.1.1 hg.1.2, shaped_toD hg.1.1.2 hg.2, ?_⟩
      rw [BL.eqv_dsame _ _ (BL.good_noB _ (toD_good a hg.1.1.1)) (BL.good_noB _ (toD_good b hg.1.1.2)), toD_same a b hg.1.1.1 hg.1.1.2]
    · cases e
theorem ok_eq : OpOk K xc W .eq (BL.uEq K) := by
  intro s σ st x y u v Q r rx ry h
  simp only [IA.op2] at h
  obtain ⟨a, ex, h⟩ := Post.get h
  obtain ⟨b, ey, h⟩ := Post.get h
  obtain ⟨k, ek, h⟩ := Post.get h
  rcases eq_read r rx ry ex ey ek with ⟨h1, h2⟩ | ⟨d, e, h1, h2, h3, h4, h5⟩
  · exact .inl ⟨h1, by rw [h2]; exact finB h r⟩
  · exact .inr ⟨d, e, h1, h2, h3, h4, by rw [h5]; exact finB h r⟩
theorem ok_ne : OpOk K xc W .ne (BL.uNe K) := by
  intro s σ st x y u v Q r rx ry h
  simp only [IA.op2] at h
  obtain ⟨a, ex, h⟩ := Post.get h
  obtain ⟨b, ey, h⟩ := Post.get h
  obtain ⟨k, ek, h⟩ := Post.get h
  rcases eq_read r rx ry ex ey ek with ⟨h1, h2⟩ | ⟨d, e, h1, h2, h3, h4, h5⟩
  · exact .inl ⟨h1, by rw [h2]; exact finB h r⟩
  · exact .inr ⟨d, e, h1, h2, h3, h4, by rw [h5]; exact finB h r⟩
end

/-! ### in -/
section
variable {K : PySem.W.Frag} {xc : XC} {W : WX} {s : Sit} {σ : L2.St} {st : IA.St} {Q : VK}
theorem any_toD {a : IA.Val} (ga : IA.good a = true) : ∀ {ys : List IA.Val}, IA.goodL ys = true → ((toDs ys).any fun z => PyData.eqv z (toD a)) = ys.any fun z => IA.veq z a
  | [], _ => rfl
  | y :: ys, h => by
    simp only [IA.goodL, Bool.and_eq_true] at h
    simp only [toDs, List.any_cons]
    rw [any_toD ga h.2, BL.eqv_dsame _ _ (BL.good_noB _ (toD_good y h.1)) (BL.good_noB _ (toD_good a ga)), toD_same y a h.1 ga]
theorem mem_read {x y : IA.EV} {u v : V} {a : IA.Val} {ys : List IA.Val} {neg : Bool} (r : Rel K xc s σ st) (rx : RVW K xc s σ x u) (ry : RVW K xc s σ y v) (ex : x.peek st = some a) (ey : y.seq st = some ys)
    (g1 : IA.good a = true) (g2 : IA.goodL ys = true) (g3 : IA.dep a ≤ 60) (h : Q (.bl (if neg then !ys.any (fun z => IA.veq z a) else ys.any fun z => IA.veq z a)) s.H) : BL.rInFp K neg u v s.H Q := by
  obtain ⟨b, us, rfl, hs, rs⟩ := ry.seq r ey
  refine ⟨toD a, toDs ys, rx.peek r ex g1, ?_, shaped_toD g1 g3, BL.goodL_lay _ (toDs_good ys g2), by rw [any_toD g1 g2]; exact h⟩
  rcases hs with hs | hs
  · exact .inl (.lst hs (RVs.dp ys us g2 rs))
  · exact .inr (.tup hs (RVs.dp ys us g2 rs))
theorem one_sign {z : String} (h : z.length = 1) : ∃ c, z.toList = [c] ∧ Str.ofString z = ⟨#[c.toNat]⟩ := by
  rw [← String.length_toList] at h
  match e : z.toList with
  | [] => rw [e] at h; simp at h
  | [c] => exact ⟨c, rfl, ext_tl' (by rw [tl_of, e]; rfl)⟩
  | _ :: _ :: _ => rw [e] at h; simp at h
theorem mem_sign {c : Char} {j : String} : decide (c.toNat ∈ (Str.ofString j).cps.toList) = j.toList.contains c := by
  rw [tl_of]
  by_cases h : c ∈ j.toList
  · have h2 : c.toNat ∈ j.toList.map Char.toNat := List.mem_map.mpr ⟨c, h, rfl⟩
    simp [h, h2]
  · have h2 : ¬ c.toNat ∈ j.toList.map Char.toNat := fun z => by
      obtain ⟨d, hd, e⟩ := List.mem_map.mp z
      have e2 : [d] = [c] := chn_inj (by simpa using e)
      cases e2
      exact h hd
    simp only [h2, decide_false]
    simpa using h
theorem ok_mem : OpOk K xc W .mem (BL.uIn K) := by
  intro s σ st x y u v Q r rx ry h
  unfold IA.op2 at h
  split at h
  all_goals try contradiction
  · cases rx.str; cases ry.str
    obtain ⟨hz, h⟩ := Post.chk h
    obtain ⟨c, ec, e⟩ := one_sign hz
    refine .inr ⟨c.toNat, _, by rw [e], rfl, ?_⟩
    rw [mem_sign]
    have := finB h r
    rw [ec] at this
    simpa using this
  · obtain ⟨a, ex, h⟩ := Post.get h
    obtain ⟨ys, ey, h⟩ := Post.get h
    obtain ⟨⟨g1, g2, g3⟩, h⟩ := Post.chk h
    exact .inl (mem_read (neg := false) r rx ry ex ey g1 g2 g3 (finB h r))
theorem ok_nmem : OpOk K xc W .nmem (BL.uNin K) := by
  intro s σ st x y u v Q r rx ry h
  unfold IA.op2 at h
  split at h
  all_goals try contradiction
  · cases rx.str; cases ry.str
    obtain ⟨hz, h⟩ := Post.chk h
    obtain ⟨c, ec, e⟩ := one_sign hz
    refine .inr ⟨c.toNat, _, by rw [e], rfl, ?_⟩
    rw [mem_sign]
    have := finB h r
    rw [ec] at this
    simpa using this
  · obtain ⟨a, ex, h⟩ := Post.get h
    obtain ⟨ys, ey, h⟩ := Post.get h
    obtain ⟨⟨g1, g2, g3⟩, h⟩ := Post.chk h
    exact .inl (mem_read (neg := true) r rx ry ex ey g1 g2 g3 (finB h r))
end
/-! ### tests and truth values -/
section
variable {Γ : IA.Env} {X : Cx} {xc : XC} {W : WX} {e a b c : Expr} {ea eb ec : IA.E} {pos : Pos} {rest : List Expr}
theorem RVW.isn {K : PySem.W.Frag} {s : Sit} {σ : L2.St} {x : IA.EV} {u : V} {k : Bool} (h : RVW K xc s σ x u) (e : IA.isNon x = some k) : decide (u = .non) = k := by
  cases x with
  | val v =>
    have h' : RV K xc s v u := h
    cases v with
    | non => simp only [RV] at h'; subst h'; cases e; rfl
    | bl b => simp only [RV] at h'; subst h'; cases e; rfl
    | int b => simp only [RV] at h'; subst h'; cases e; rfl
    | str b => simp only [RV] at h'; subst h'; cases e; rfl
    | tup b => obtain ⟨a, us, rfl, _⟩ := h'.tupE; cases e; rfl
    | lst b => obtain ⟨a, us, rfl, _⟩ := h'.lstE; cases e; rfl
    | obj C fs => simp only [RV] at h'; obtain ⟨a, dx, us, rfl, _⟩ := h'; cases e; rfl
    | ref n => obtain ⟨a, rfl, _⟩ := h'.refE; cases e; rfl
    | scr x => simp only [RV] at h'; obtain ⟨a, d, rfl, _⟩ := h'; cases e; rfl
  | own i => cases e
  | new xs => obtain ⟨a, us, rfl, _⟩ := h; cases e; rfl
variable {s : Sit} {σ : L2.St} {st : IA.St} {Q : VK}
theorem se_isn {j pos'} (ha : SE Γ X xc W a ea) (hm : behindInMarks .Is (.Constant .none j pos') = false := by rfl) : SE Γ X xc W (.Compare a [.Is] [.Constant .none j pos'] pos) (.isn ea) := by
  obtain ⟨ta, pa, fa⟩ := ha.ex
  refine ⟨_, pe_cmpR BL.u_is pa pe_non hm, fun s σ st r Q h => ?_⟩
  simp only [IA.ev] at h
  refine fa s σ st r _ (bindE h fun x st1 s1 u l1 r1 w1 q1 => ?_)
  obtain ⟨k, ek, q1⟩ := Post.get q1
  exact ⟨rfl, by rw [w1.isn ek]; exact finB q1 r1⟩
theorem se_isnt {j pos'} (ha : SE Γ X xc W a ea) (hm : behindInMarks .IsNot (.Constant .none j pos') = false := by rfl) : SE Γ X xc W (.Compare a [.IsNot] [.Constant .none j pos'] pos) (.isnt ea) := by
  obtain ⟨ta, pa, fa⟩ := ha.ex
  refine ⟨_, pe_cmpR BL.u_isnt pa pe_non hm, fun s σ st r Q h => ?_⟩
  simp only [IA.ev] at h
  refine fa s σ st r _ (bindE h fun x st1 s1 u l1 r1 w1 q1 => ?_)
  obtain ⟨k, ek, q1⟩ := Post.get q1
  exact ⟨rfl, by rw [w1.isn ek]; exact finB q1 r1⟩
/-! and, or, not as values -/
theorem se_one {op} (h : SE Γ X xc W a ea) : SE Γ X xc W (.BoolOp op [a] pos) ea := by
  obtain ⟨t, p, f⟩ := h.ex
  exact ⟨t, pe_one p, f⟩
theorem se_and (ha : SE Γ X xc W a ea) (hb : SE Γ X xc W (.BoolOp .And (b :: rest) pos) eb) : SE Γ X xc W (.BoolOp .And (a :: b :: rest) pos) (.and ea eb) := by
  obtain ⟨ta, pa, fa⟩ := ha.ex
  obtain ⟨tb, pb, fb⟩ := hb.ex
  refine ⟨_, pe_and pa pb, fun s σ st r Q h => ?_⟩
  simp only [IA.ev] at h
  refine fa s σ st r _ (bindE h fun x st1 s1 u l1 r1 w1 q1 => ?_)
  split at q1
  · cases w1.b
    exact ⟨true, rfl, by rw [if_pos rfl]; exact fb s1 σ st1 r1 Q q1⟩
  · cases w1.b
    exact ⟨false, rfl, by rw [if_neg Bool.false_ne_true]; exact finB q1 r1⟩
  · exact q1.elim
theorem se_or (ha : SE Γ X xc W a ea) (hb : SE Γ X xc W (.BoolOp .Or (b :: rest) pos) eb) : SE Γ X xc W (.BoolOp .Or (a :: b :: rest) pos) (.or ea eb) := by
  obtain ⟨ta, pa, fa⟩ := ha.ex
  obtain ⟨tb, pb, fb⟩ := hb.ex
  refine ⟨_, pe_or pa pb, fun s σ st r Q h => ?_⟩
  simp only [IA.ev] at h
  refine fa s σ st r _ (bindE h fun x st1 s1 u l1 r1 w1 q1 => ?_)
  split at q1
  · cases w1.b
    exact ⟨true, rfl, by rw [if_pos rfl]; exact finB q1 r1⟩
  · cases w1.b
    exact ⟨false, rfl, by rw [if_neg Bool.false_ne_true]; exact fb s1 σ st1 r1 Q q1⟩
  · exact q1.elim
theorem se_not (ha : SE Γ X xc W a ea) : SE Γ X xc W (.UnaryOp .Not a pos) (.not ea) := by
  obtain ⟨ta, pa, fa⟩ := ha.ex
  refine ⟨_, pe_not pa, fun s σ st r Q h => ?_⟩
  simp only [IA.ev] at h
  refine fa s σ st r _ (bindE h fun x st1 s1 u l1 r1 w1 q1 => ?_)
  split at q1
  · rename_i k
    cases w1.b
    exact ⟨k, rfl, finB q1 r1⟩
  · exact q1.elim
/-! tests -/
theorem RVW.truth {x : IA.EV} {u : V} {k : Bool} (r : Rel X.K xc s σ st) (h : RVW X.K xc s σ x u) (e : IA.truth x st = some k) : TruV X.K u s.H k := by
  unfold IA.truth at e
  split at e
  · cases e; cases h.n; exact rfl
  · cases e; cases h.b; exact rfl
  · cases e; cases h.i; exact rfl
  · rename_i z
    split at e
    · rename_i hz
      cases e; cases h.str
      refine ⟨by rw [ofS_len, ← szL_eq]; exact hz, ?_⟩
      rw [ofS_len, ← String.length_toList]
      cases q : z.toList with
      | nil =>
        have : z = "" := String.toList_inj.mp (by rw [q]; rfl)
        subst this; rfl
      | cons c l =>
        have hne : z.isEmpty = false := by
          rw [Bool.eq_false_iff]
          intro hh
          have e0 : z = "" := by simpa using hh
          subst e0
          simp at q
        simp [hne]
        omega
    · cases e
  · obtain ⟨xs, q, e⟩ := Option.map_eq_some_iff.mp e
    cases e
    obtain ⟨a, us, rfl, hs, rs⟩ := h.seq r q
    have e1 : (!xs.isEmpty) = !us.isEmpty := by
      have := rs.len
      cases xs <;> cases us <;> simp_all
    rw [e1]
    rcases hs with hs | hs
    · exact .inl ⟨us, hs, rfl⟩
    · exact .inr (.inl ⟨us, hs, rfl⟩)
theorem st_truth (ha : SE Γ X xc W a ea) (hx : ∀ Γ st, IA.tst Γ ea st = (IA.ev Γ ea st).bind fun x s => .get (IA.truth x s) fun k => .ok k s := by intros; simp only [IA.tst]) (he : ∀ whole, isTrue a X.env whole = (do let v ← whole; standAt a.pos; holding [v] (truthy v)) := by intro _; rfl) : ST Γ X xc W a ea := by
  obtain ⟨ta, pa, fa⟩ := ha.ex
  refine ⟨_, pt_truth pa he, fun s σ st r Q h => ?_⟩
  rw [hx] at h
  refine fa s σ st r _ (bindE h fun x st1 s1 u l1 r1 w1 q1 => ?_)
  obtain ⟨k, ek, q1⟩ := Post.get q1
  exact ⟨k, w1.truth r1 ek, Post.ok (N := NT Q) q1 r1⟩
def isCmp : IA.Op2 → Bool
  | .eq | .ne | .lt | .le | .gt | .ge | .mem | .nmem => true
  | _ => false
theorem op2_bl {o : IA.Op2} (ho : isCmp o = true) (x y : IA.EV) (st : IA.St) : IA.op2 o x y st = .stuck ∨ ∃ k, IA.op2 o x y st = .ok (.val (.bl k)) st := by
  have chk : ∀ (c : Prop) [Decidable c] (k : Bool), IA.Res.chk c (IA.Res.ok (IA.EV.val (.bl k)) st) = .stuck ∨ ∃ k', IA.Res.chk c (IA.Res.ok (IA.EV.val (.bl k)) st) = .ok (.val (.bl k')) st := fun c _ k => by
    unfold IA.Res.chk
    split
    · exact .inr ⟨k, rfl⟩
    · exact .inl rfl
  have get : ∀ {α : Type} (o : Option α) (f : α → IA.Res IA.St IA.EV), (∀ a, f a = .stuck ∨ ∃ k, f a = .ok (.val (.bl k)) st) → IA.Res.get o f = .stuck ∨ ∃ k, IA.Res.get o f = .ok (.val (.bl k)) st := fun o f hf => by
    cases o with
    | none => exact .inl rfl
    | some a => exact hf a
  unfold IA.op2
  split
  all_goals first
    | (exfalso; exact Bool.false_ne_true ho)
    | exact .inr ⟨_, rfl⟩
    | exact .inl rfl
    | exact chk _ _
    | exact get _ _ fun a => get _ _ fun b => get _ _ fun k => .inr ⟨_, rfl⟩
    | exact get _ _ fun a => get _ _ fun b => chk _ _
theorem st_cmp {op : CmpOp} {o : IA.Op2} {r : R2} (ho : OpR X (compareOp op) r) (ok : OpOk X.K xc W o r) (ha : SE Γ X xc W a ea) (hb : SE Γ X xc W b eb) (hm : behindInMarks op b = false) (hc : isCmp o = true := by rfl) : ST Γ X xc W (.Compare a [op] [b] pos) (.op o ea eb) := by
  obtain ⟨ta, pa, fa⟩ := ha.ex
  obtain ⟨tb, pb, fb⟩ := hb.ex
  refine ⟨_, pt_cmpR ho pa pb hm, fun s σ st rel Q h => ?_⟩
  simp only [IA.tst, IA.ev] at h
  have e : (((IA.ev Γ ea st).bind fun x s => (IA.ev Γ eb s).bind fun y s => IA.op2 o x y s).bind fun x s => IA.Res.get (IA.truth x s) fun k => IA.Res.ok k s) = (IA.ev Γ ea st).bind fun x s => (IA.ev Γ eb s).bind fun y s => (IA.op2 o x y s).bind fun x s => IA.Res.get (IA.truth x s) fun k => IA.Res.ok k s := by
    cases IA.ev Γ ea st with
    | ok x s1 =>
      show ((IA.ev Γ eb s1).bind fun y s => IA.op2 o x y s).bind _ = (IA.ev Γ eb s1).bind _
      cases IA.ev Γ eb s1 <;> rfl
    | exc => rfl
    | stuck => rfl
  rw [e] at h
  show tOp r ta tb σ s.H _
  refine fa s σ st rel _ (bindE h fun x st1 s1 u l1 r1 w1 q1 => ?_)
  refine fb s1 σ st1 r1 _ (bindE q1 fun y st2 s2 v l2 r2 w2 q2 => ?_)
  refine ok s2 σ st2 x y u v _ r2 (w1.mono r1.hp.mt l2) w2 ?_
  rcases op2_bl hc x y st2 with z | ⟨k, z⟩
  · rw [z] at q2; exact q2.elim
  · rw [z] at q2 ⊢
    intro s3 l3 r3 w H' e3
    obtain ⟨e4, e5⟩ := e3
    simp only [RV] at e5
    subst e5; subst e4
    exact ⟨k, rfl, (q2.mono l3) s3 (Le.refl s3) r3⟩
end
end IS

set_option Elab.async false
set_option linter.all false
set_option maxRecDepth 100000
set_option maxHeartbeats 2000000
/-! ## The small machine: displays, subscripts, fields, built-ins (own text) -/
namespace IS
open PySem PySem.Spec PyProof.Rows L2
section
variable {Γ : IA.Env} {X : Cx} {xc : XC} {W : WX} {e a b c : Expr} {es : List Expr} {ea eb ec : IA.E} {er : IA.Es} {pos : Pos} {s : Sit} {σ : L2.St} {st : IA.St} {Q : VK}
/-! ### argument lists -/
theorem sv_nil : SV Γ X xc W [] .nil := by
  refine ⟨_, pa_nil, fun s σ st r Q h => ?_⟩
  simp only [IA.evv] at h
  exact Post.ok (N := NV X.K xc Q) h r [] RVs.nil
theorem sv_cons (ha : SE Γ X xc W e ea) (hr : SV Γ X xc W es er) (hs : starEach (e :: es) X.env = (false, eval e X.env) :: starEach es X.env := by rfl) : SV Γ X xc W (e :: es) (.cons ea er) := by
  obtain ⟨ta, pa, fa⟩ := ha.ex
  obtain ⟨tr, pr, fr⟩ := hr.ex
  refine ⟨_, pa_cons pa pr hs, fun s σ st r Q h => ?_⟩
  simp only [IA.evv] at h
  refine fa s σ st r _ (bindE h fun x st1 s1 u l1 r1 w1 q1 => ?_)
  obtain ⟨v, st2, s2, l2, e2, r2, rv, q2⟩ := Post.keep r1 w1 q1
  rw [← e2]
  refine fr s2 σ st2 r2 _ (Post.bind q2 fun vs st3 s3 l3 r3 q3 us rs => ?_)
  exact Post.ok (N := NV X.K xc Q) q3 r3 _ (RVs.cons (RV.mono r2.hp.mt l3 _ _ rv) rs)
theorem sw_nil : SW Γ X xc W [] .nil := by
  refine ⟨_, pa_nil, fun s σ st r Q h => ?_⟩
  simp only [IA.evs] at h
  exact Post.ok (N := NW X.K xc σ Q) h r [] rfl
theorem sw_cons (ha : SE Γ X xc W e ea) (hr : SW Γ X xc W es er) (hs : starEach (e :: es) X.env = (false, eval e X.env) :: starEach es X.env := by rfl) : SW Γ X xc W (e :: es) (.cons ea er) := by
  obtain ⟨ta, pa, fa⟩ := ha.ex
  obtain ⟨tr, pr, fr⟩ := hr.ex
  refine ⟨_, pa_cons pa pr hs, fun s σ st r Q h => ?_⟩
  simp only [IA.evs] at h
  refine fa s σ st r _ (bindE h fun x st1 s1 u l1 r1 w1 q1 => ?_)
  refine fr s1 σ st1 r1 _ (Post.bind q1 fun xs st3 s3 l3 r3 q3 us rs => ?_)
  exact Post.ok (N := NW X.K xc σ Q) q3 r3 _ ⟨u, us, rfl, w1.mono r1.hp.mt l3, rs⟩
/-! ### displays -/
theorem se_tup {k} (h : SV Γ X xc W es er) : SE Γ X xc W (.Tuple es k pos) (.tup er) := by
  obtain ⟨t, p, f⟩ := h.ex
  refine ⟨_, pe_tup p, fun s σ st r Q h => ?_⟩
  simp only [IA.ev] at h
  refine f s σ st r _ (Post.bind h fun vs st1 s1 l1 r1 q1 us rs => ?_)
  obtain ⟨hz, q1⟩ := Post.chk q1
  exact ⟨by rw [rs.len, ← szL_eq]; exact hz, fun p n => finT q1 r1 rs n⟩
theorem se_lst (h : SV Γ X xc W es er) : SE Γ X xc W (.List es pos) (.lst er) := by
  obtain ⟨t, p, f⟩ := h.ex
  refine ⟨_, pe_lst p, fun s σ st r Q h => ?_⟩
  simp only [IA.ev] at h
  refine f s σ st r _ (Post.bind h fun vs st1 s1 l1 r1 q1 us rs => ?_)
  obtain ⟨hz, q1⟩ := Post.chk q1
  exact ⟨by rw [rs.len, ← szL_eq]; exact hz, fun p n => finL q1 r1 rs n⟩
/-! ### subscripts -/
theorem ixN_eq (n : Nat) (i : Int) : IA.ixN n i = L2.ixN n i := rfl
theorem at_get {K : PySem.W.Frag} {xs : List IA.Val} {us : List V} {i : Int} {v : IA.Val} (r : RVs K xc s xs us) (e : IA.atI xs i = some v) : ∃ u, L2.atI us i = some u ∧ RV K xc s v u := by
  unfold IA.atI at e
  unfold L2.atI
  rw [r.len, ← ixN_eq]
  cases q : IA.ixN xs.length i with
  | none => rw [q] at e; cases e
  | some j =>
    rw [q] at e
    exact r.get e
theorem se_ix (ha : SE Γ X xc W a ea) (hb : SE Γ X xc W b eb) (hs : PlainIx b := by exact fun _ _ => rfl) : SE Γ X xc W (.Subscript a b pos) (.ix ea eb) := by
  obtain ⟨ta, pa, fa⟩ := ha.ex
  obtain ⟨tb, pb, fb⟩ := hb.ex
  refine ⟨_, pe_ix ix_seq pa pb hs, fun s σ st r Q h => ?_⟩
  simp only [IA.ev] at h
  refine fa s σ st r _ (bindE h fun x st1 s1 u l1 r1 w1 q1 => ?_)
  refine fb s1 σ st1 r1 _ (bindE q1 fun y st2 s2 v l2 r2 w2 q2 => ?_)
  have w1' := w1.mono r1.hp.mt l2
  split at q2
  · rename_i j
    obtain ⟨z, ez, q3⟩ := Post.get q2
    clear q2
    unfold IA.ixE at ez
    split at ez
    · rename_i t i
      split at ez
      · rename_i hz
        cases w1'.str
        cases (show RVW X.K xc s2 σ (.val (.int i)) v from w2).i
        obtain ⟨ch, ec, rfl⟩ := Option.map_eq_some_iff.mp ez
        refine .inr (.inr ⟨_, i, ch.toNat, rfl, rfl, by rw [ofS_len, ← szL_eq]; exact hz, ?_, ?_⟩)
        · unfold L2.atI
          rw [tl_of, List.length_map, String.length_toList, ← ixN_eq]
          cases q : IA.ixN t.length i with
          | none => rw [q] at ec; cases ec
          | some k =>
            rw [q] at ec
            show (t.toList.map Char.toNat)[k]? = _
            rw [List.getElem?_map]
            rw [show t.toList[k]? = some ch from ec]
            rfl
        · have := finS q3 r2
          have e : (Str.ofString (IA.chStr ch)) = ⟨#[ch.toNat]⟩ := ext_tl' (by rw [tl_of]; simp [IA.chStr])
          rw [e] at this
          exact this
      · cases ez
    · rename_i i hn
      cases (show RVW X.K xc s2 σ (.val (.int i)) v from w2).i
      obtain ⟨xs, q, ez⟩ := Option.bind_eq_some_iff.mp ez
      obtain ⟨p, us, rfl, hs2, rs⟩ := w1'.seq r2 q
      obtain ⟨w, ew, rw'⟩ := at_get rs ez
      rcases hs2 with hs2 | hs2
      · exact .inl ⟨p, us, i, w, rfl, rfl, hs2, ew, fin q3 r2 rw'⟩
      · exact .inr (.inl ⟨p, us, i, w, rfl, rfl, hs2, ew, fin q3 r2 rw'⟩)
    · cases ez
  · exact q2.elim
/-! slices -/
def PartOf (f : Option Unit) (y : IA.EV) (o : Option Int) : Prop := ∃ i, y = .val i ∧ IA.optI f i = some o
structure SO (Γ : IA.Env) (X : Cx) (xc : XC) (W : WX) (e : Option Expr) (f : Option Unit) (a : IA.E) : Prop where
  ex : ∃ t : TO, PO X e t ∧ ∀ s σ st, Rel X.K xc s σ st → ∀ {β : Type} (N : Sit → β → IA.St → Prop) (g : IA.EV → IA.St → IA.Res IA.St β) (Q : Option Int → Hp → Prop),
    Post X.K xc s σ W N ((IA.ev Γ a st).bind g) → (∀ y st' s', Post X.K xc s' σ W N (g y st') → ∃ o, PartOf f y o) →
    (∀ y st' s' o, Le s s' → Rel X.K xc s' σ st' → PartOf f y o → Post X.K xc s' σ W N (g y st') → Q o s'.H) → t σ s.H Q
theorem so_none : SO Γ X xc W none none (.c .non) := by
  refine ⟨_, po_none, fun s σ st r β N g Q h _ k => ?_⟩
  simp only [IA.ev] at h
  exact k _ st s none (Le.refl s) r ⟨.non, rfl, rfl⟩ h
theorem so_some (h : SE Γ X xc W e ea) : SO Γ X xc W (some e) (some ()) ea := by
  obtain ⟨t, p, f⟩ := h.ex
  refine ⟨_, po_some p, fun s σ st r β N g Q h hp k => ?_⟩
  refine f s σ st r _ (bindE h fun x st1 s1 u l1 r1 w1 q1 => ?_)
  obtain ⟨o, i, rfl, ho⟩ := hp _ _ _ q1
  cases i with
  | int j =>
    cases w1.i
    exact ⟨j, rfl, k _ st1 s1 (some j) l1 r1 ⟨_, rfl, rfl⟩ q1⟩
  | _ => cases ho
theorem cut_len {α β : Type} {xs : List α} {us : List β} (h : us.length = xs.length) (lo hi : Option Int) : HT.sIx us.length 0 lo = IA.sIx xs.length 0 lo ∧ HT.sIx us.length us.length hi = IA.sIx xs.length xs.length hi := by
  rw [h]
  exact ⟨rfl, rfl⟩
theorem RVs.cut {K : PySem.W.Frag} {xs : List IA.Val} {us : List V} (r : RVs K xc s xs us) (lo hi : Option Int) : RVs K xc s (IA.cut xs lo hi) (cutV us lo hi) := by
  unfold IA.cut cutV
  obtain ⟨e1, e2⟩ := cut_len (xs := xs) (us := us) r.len lo hi
  rw [e1, e2]
  exact RVs.take (RVs.drop r)
theorem post_part {β : Type} {N : Sit → β → IA.St → Prop} {fl : Option Unit} {y : IA.EV} {k : Option Int → IA.Res IA.St β} {s' : Sit} {W : WX} {K : PySem.W.Frag}
    (h : Post K xc s' σ W N (match y with | .val i => .get (IA.optI fl i) k | _ => .stuck)) : ∃ o, PartOf fl y o ∧ Post K xc s' σ W N (k o) := by
  cases y with
  | val i =>
    obtain ⟨o, e, h⟩ := Post.get h
    exact ⟨o, ⟨i, rfl, e⟩, h⟩
  | own i => exact h.elim
  | new i => exact h.elim
theorem se_sl {lo hi : Option Expr} {fl fh : Option Unit} {el eh : IA.E} {p2 : Pos} (ha : SE Γ X xc W a ea) (hl : SO Γ X xc W lo fl el) (hh : SO Γ X xc W hi fh eh) : SE Γ X xc W (.Subscript a (.Slice lo hi none p2) pos) (.sl ea fl fh el eh) := by
  obtain ⟨ta, pa, fa⟩ := ha.ex
  obtain ⟨tl, pl, fl'⟩ := hl.ex
  obtain ⟨th, ph, fh'⟩ := hh.ex
  refine ⟨_, pe_slice BL.u_sl pa pl ph, fun s σ st r Q h => ?_⟩
  simp only [IA.ev] at h
  refine fa s σ st r _ (bindE h fun x st1 s1 u l1 r1 w1 q1 => ?_)
  refine fl' s1 σ st1 r1 _ _ _ q1 (fun y st' s' q => let ⟨o, h1, _⟩ := post_part q; ⟨o, h1⟩) fun y st2 s2 lo' l2 r2 py q2 => ?_
  obtain ⟨o, ⟨i, rfl, eo⟩, q5⟩ := post_part q2
  clear q2
  obtain ⟨i', ei, eo'⟩ := py
  cases ei
  rw [eo] at eo'
  cases eo'
  refine fh' s2 σ st2 r2 _ _ _ q5 (fun y st' s' q => let ⟨o, h1, _⟩ := post_part q; ⟨o, h1⟩) fun z st3 s3 hi' l3 r3 pz q3 => ?_
  obtain ⟨o, ⟨j, rfl, eo⟩, q6⟩ := post_part q3
  clear q3
  obtain ⟨j', ej, eo'⟩ := pz
  cases ej
  rw [eo] at eo'
  cases eo'
  have w3 := w1.mono r1.hp.mt (l2.trans l3)
  obtain ⟨rr, er, q4⟩ := Post.get q6
  clear q6 q5 q1 h
  unfold IA.slE at er
  split at er
  · rename_i t
    split at er
    · rename_i hz
      cases er
      cases w3.str
      refine .inr (.inr ⟨_, rfl, by rw [ofS_len, ← szL_eq]; exact hz, ?_⟩)
      have := finS q4 r3
      have e : Str.ofString (String.ofList (IA.cut t.toList lo' hi')) = cutS (Str.ofString t) lo' hi' := by
        refine ext_tl' ?_
        rw [tl_of, String.toList_ofList]
        unfold cutS
        have e0 : (Str.ofString t).length = t.toList.length := by rw [ofS_len, String.length_toList]
        simp only [tl_of]
        rw [e0]
        unfold IA.cut
        rw [List.map_take, List.map_drop]
        rfl
      rw [e] at this
      exact this
    · cases er
  · rename_i xs
    cases er
    obtain ⟨b, us, rfl, hs, rs⟩ := w3.t
    have hr' := RVs.cut rs lo' hi'
    refine .inr (.inl ⟨b, us, rfl, hs, fun hw => ?_, fun _ p n => finT q4 r3 hr' n⟩)
    refine fin q4 r3 ?_
    simp only [RV]
    refine ⟨b, _, rfl, ?_, hr'⟩
    unfold cutV
    rw [hw.1, hw.2]
    simpa using hs
  · rename_i hn1 hn2
    obtain ⟨xs, ex, er⟩ := Option.map_eq_some_iff.mp er
    cases er
    obtain ⟨b, us, rfl, hs, rs⟩ := w3.list r3 ex
    exact .inl ⟨b, us, rfl, SqL.of hs, fun p n => finL q4 r3 (RVs.cut rs lo' hi') n⟩
theorem se_rev {k : Nat} {p1 p2 p3 : Pos} (ha : SE Γ X xc W a ea) : SE Γ X xc W (.Subscript a (.Slice none none (some (.UnaryOp .USub (.Constant (.int 1) k p1) p2)) p3) pos) (.rev ea) := by
  obtain ⟨ta, pa, fa⟩ := ha.ex
  refine ⟨_, pe_revL pa, fun s σ st r Q h => ?_⟩
  simp only [IA.ev] at h
  refine fa s σ st r _ (bindE h fun x st1 s1 u l1 r1 w1 q1 => ?_)
  obtain ⟨xs, ex, q1⟩ := Post.get q1
  obtain ⟨b, us, rfl, hs, rs⟩ := w1.list r1 ex
  exact ⟨b, us, rfl, SqL.of hs, fun p n => finL q1 r1 rs.rev n⟩
/-! ### fields -/
/-- the classes that may have the field -/
def Flds (K : PySem.W.Frag) (cs : List String) (f : String) : Prop := ∀ C ∈ cs, Cls K (He.ga K (Str.ofString C)) ∧ NoAttr K (He.ga K (Str.ofString C)) (Str.ofString f)
theorem flds_nil {K : PySem.W.Frag} {f : String} : Flds K [] f := fun _ h => nomatch h
theorem flds_cons {K : PySem.W.Frag} {f C : String} {cs : List String} (h1 : Cls K (He.ga K (Str.ofString C))) (h2 : NoAttr K (He.ga K (Str.ofString C)) (Str.ofString f)) (h : Flds K cs f) : Flds K (C :: cs) f := fun D hD => by
  rcases List.mem_cons.mp hD with rfl | hD
  · exact ⟨h1, h2⟩
  · exact h D hD
theorem RVW.fld {K : PySem.W.Frag} {cs : List String} {f : String} {x : IA.EV} {u : V} {v : IA.Val} (F : Flds K cs f) (r : Rel K xc s σ st) (h : RVW K xc s σ x u) (e : IA.fldE x f cs st = some v) :
    ∃ a C dx fs w, u = .ref a ∧ s.H a = some (.ins C dx fs) ∧ Cls K C ∧ NoAttr K C (Str.ofString f) ∧ fs.lookup (Str.ofString f) = some w ∧ RV K xc s v w := by
  unfold IA.fldE at e
  split at e
  · rename_i C fs
    split at e
    · rename_i hc
      obtain ⟨a, dx, us, rfl, n, q, rf⟩ : ∃ a dx us, u = .ref a ∧ ¬ s.T a ∧ s.H a = some (.ins (He.ga K (Str.ofString C)) dx us) ∧ RFs K xc s fs us := by simpa only [RVW, RV] using h
      obtain ⟨w, h1, h2⟩ := (RFs.look rf).1 _ e
      exact ⟨a, _, dx, us, w, rfl, q, (F C hc).1, (F C hc).2, h1, h2⟩
    · cases e
  · rename_i n
    obtain ⟨a, rfl, h2⟩ := RV.refE (K := K) (xc := xc) (s := s) h
    split at e
    · rename_i C fs q
      split at e
      · rename_i hc
        obtain ⟨b, h3, h4, dx, us, h5, h6⟩ := r.hp.cell n _ q
        rw [h2] at h3
        cases h3
        obtain ⟨w, g1, g2⟩ := (RFs.look h6).1 _ e
        exact ⟨a, _, dx, us, w, rfl, h5, (F C hc).1, (F C hc).2, g1, g2⟩
      · cases e
    · cases e
  · cases e
theorem se_fld {f : String} {cs : List String} {z : Str} (F : Flds X.K cs f) (ha : SE Γ X xc W a ea) (hz : z = Str.ofString f := by rfl) (hb : attributeBase a z X.env (eval a X.env) = eval a X.env := by rfl) : SE Γ X xc W (.Attribute a z pos) (.fld ea f cs) := by
  subst hz
  obtain ⟨ta, pa, fa⟩ := ha.ex
  refine ⟨_, pe_fld pa hb, fun s σ st r Q h => ?_⟩
  simp only [IA.ev] at h
  refine fa s σ st r _ (bindE h fun x st1 s1 u l1 r1 w1 q1 => ?_)
  obtain ⟨v, ev, q1⟩ := Post.get q1
  obtain ⟨b, C, dx, fs, w, rfl, h1, h2, h3, h4, h5⟩ := RVW.fld F r1 w1 ev
  exact ⟨b, C, dx, fs, w, rfl, h1, h2, h3, h4, fin q1 r1 h5⟩
end
end IS

set_option Elab.async false
set_option linter.all false
set_option maxRecDepth 100000
set_option maxHeartbeats 2000000
/-! ## The small machine: what is changed; built-ins (own text) -/
namespace IS
open PySem PySem.Spec PyProof.Rows L2
section
variable {K : PySem.W.Frag} {xc : XC} {W : WX} {s : Sit} {σ : L2.St} {st st' : IA.St} {Q : VK}
/-! ### a thing is changed -/
def Sit.wr (s : Sit) (a : Addr) (o : HO) : Sit := { s with H := upd s.H a o }
theorem Le.wr {a : Addr} {o u : HO} (hM : s.M a) (ha : s.H a = some u) (hi : ¬ BL.Imm u) : Le s (s.wr a o) where
  keep := fun b v n e => by
    have hb : b ≠ a := fun z => n (z ▸ hM)
    show upd s.H a o b = some v
    rw [upd_ne hb]; exact e
  imm := fun b v i e => by
    have hb : b ≠ a := fun z => by
      rw [z, ha] at e
      cases e
      exact hi i
    show upd s.H a o b = some v
    rw [upd_ne hb]; exact e
  trk := fun b v e => by
    by_cases hb : b = a
    · exact ⟨o, by rw [hb]; exact upd_same⟩
    · exact ⟨v, by show upd s.H a o b = some v; rw [upd_ne hb]; exact e⟩
  mu := fun _ h => .inl h
  thr := fun _ h => .inl h
  tkp := fun _ _ _ h _ => h
  ref := fun _ _ h => h
  rnew := fun _ _ h => .inl h
theorem Rel.wheap (r : Rel K xc s σ st) {n : Nat} {a : Addr} {o u : HO} {c : IA.Cell} (hn : s.R n = some a) (hM : s.M a) (ha : s.H a = some u) (hi : ¬ BL.Imm u) (hc : RC K xc (s.wr a o) a c) : Le s (s.wr a o) ∧ Rel K xc (s.wr a o) σ ⟨st.σ, st.h.set n c⟩ := by
  have l : Le s (s.wr a o) := Le.wr hM ha hi
  refine ⟨l, ⟨⟨r.hp.mt, fun b t => let ⟨v, e⟩ := r.hp.ex b t; l.trk b v e, fun m b e => let ⟨v, e2⟩ := r.hp.rex m b e; l.trk b v e2, r.hp.inj, r.hp.nxt, fun m d e => ?_⟩, r.exsM l, r.len, fun i x e => ?_, fun i xs e => ?_, r.oinj, r.ohp⟩⟩
  · simp only [IA.AHeap.set] at e
    split at e
    · rename_i hm
      subst hm
      cases e
      exact ⟨a, hn, hM, hc⟩
    · rename_i hm
      obtain ⟨b, h1, h2, h3⟩ := r.hp.cell m d e
      refine ⟨b, h1, h2, h3.mono r.hp.mt l ?_⟩
      exact upd_ne fun z => hm (r.hp.inj m n a (z ▸ h1) hn)
  · obtain ⟨v, h1, h2⟩ := r.slot i x e
    exact ⟨v, h1, RV.mono r.hp.mt l _ _ h2⟩
  · obtain ⟨b, us, h1, h2, h3, h4⟩ := r.own i xs e
    refine ⟨b, us, h1, h2, ?_, RVs.mono r.hp.mt l _ _ h4⟩
    show upd s.H a o b = _
    rw [upd_ne fun (z : b = a) => r.ohp i xs b n e h1 (by rw [z]; exact hn)]
    exact h3
theorem Rel.put {x : IA.EV} {u : V} {ys : List IA.Val} (r : Rel K xc s σ st) (w : RVW K xc s σ x u) (p : x.put ys st = some st') :
    ∃ a xs us, u = .ref a ∧ s.H a = some (.lst us) ∧ RVs K xc s xs us ∧ x.list st = some xs ∧ ∀ us', RVs K xc s ys us' → Le s (s.wr a (.lst us')) ∧ Rel K xc (s.wr a (.lst us')) σ st' := by
  unfold IA.EV.put at p
  split at p
  · rename_i i
    have w' : σ[i]? = some (some u) := w
    split at p
    · rename_i xs q
      cases p
      obtain ⟨a, us, h1, h2, h3, h4⟩ := r.own i _ q
      rw [w'] at h1
      cases h1
      refine ⟨a, xs, us, rfl, h3, h4, by simp only [IA.EV.list, q], fun us' hu => ?_⟩
      have l : Le s (s.wr a (.lst us')) := Le.wr h2 h3 (fun z => z)
      have hlt : i < st.σ.length := (List.getElem?_eq_some_iff.mp q).1
      refine ⟨l, ⟨⟨r.hp.mt, fun b t => let ⟨v, e⟩ := r.hp.ex b t; l.trk b v e, fun m b e => let ⟨v, e2⟩ := r.hp.rex m b e; l.trk b v e2, r.hp.inj, r.hp.nxt, fun m d e => ?_⟩, fun j C y e => ?_, by simpa [IA.St.set] using r.len, fun j y e => ?_, fun j zs e => ?_, fun j k xs' zs b e1 e2 => ?_, fun j zs b n e1 => ?_⟩⟩
      · obtain ⟨b, g1, g2, g3⟩ := r.hp.cell m d e
        refine ⟨b, g1, g2, g3.mono r.hp.mt l ?_⟩
        exact upd_ne fun z => r.ohp i xs a m q w' (z ▸ g1)
      · simp only [IA.St.set] at e
        by_cases hj : j = i
        · subst hj
          rw [List.getElem?_set_self hlt] at e
          cases e
        · rw [List.getElem?_set_ne (Ne.symm hj)] at e
          exact r.exsM l j C y e
      · simp only [IA.St.set] at e
        by_cases hj : j = i
        · subst hj
          rw [List.getElem?_set_self hlt] at e
          cases e
        · rw [List.getElem?_set_ne (Ne.symm hj)] at e
          obtain ⟨v, g1, g2⟩ := r.slot j y e
          exact ⟨v, g1, RV.mono r.hp.mt l _ _ g2⟩
      · simp only [IA.St.set] at e
        by_cases hj : j = i
        · subst hj
          rw [List.getElem?_set_self hlt] at e
          cases e
          exact ⟨a, us', w', h2, upd_same, RVs.mono r.hp.mt l _ _ hu⟩
        · rw [List.getElem?_set_ne (Ne.symm hj)] at e
          obtain ⟨b, vs, g1, g2, g3, g4⟩ := r.own j zs e
          refine ⟨b, vs, g1, g2, ?_, RVs.mono r.hp.mt l _ _ g4⟩
          show upd s.H a _ b = _
          rw [upd_ne fun (z : b = a) => hj (r.oinj j i zs xs a e q (by rw [← z]; exact g1) w')]
          exact g3
      · have f : ∀ (j : Nat) (zs : List IA.Val), (st.set i (.own ys)).σ[j]? = some (some (IA.SV.own zs)) → ∃ zs', st.σ[j]? = some (some (IA.SV.own zs')) := fun j zs e => by
          simp only [IA.St.set] at e
          by_cases hj : j = i
          · subst hj; exact ⟨xs, q⟩
          · exact ⟨zs, by rwa [List.getElem?_set_ne (Ne.symm hj)] at e⟩
        obtain ⟨_, f1⟩ := f j _ e1
        obtain ⟨_, f2⟩ := f k _ e2
        exact r.oinj j k _ _ b f1 f2
      · simp only [IA.St.set] at e1
        by_cases hj : j = i
        · subst hj; exact r.ohp j xs b n q
        · rw [List.getElem?_set_ne (Ne.symm hj)] at e1
          exact r.ohp j zs b n e1
    · cases p
  · rename_i n
    obtain ⟨a, rfl, h2⟩ := RV.refE (K := K) (xc := xc) (s := s) w
    split at p
    · rename_i xs q
      cases p
      obtain ⟨b, h3, h4, us, h5, h6⟩ := r.hp.cell n _ q
      rw [h2] at h3
      cases h3
      refine ⟨a, xs, us, rfl, h5, h6, by simp only [IA.EV.list, q], fun us' hu => ?_⟩
      exact r.wheap h2 h4 h5 (fun z => z) ⟨us', upd_same, RVs.mono r.hp.mt (Le.wr h4 h5 (fun z => z)) _ _ hu⟩
    · cases p
  · cases p
/-! ### arguments by number -/
theorem RWs.nilE {us : List V} (h : RWs K xc s σ [] us) : us = [] := h
theorem RWs.consE {x : IA.EV} {xs : List IA.EV} {us : List V} (h : RWs K xc s σ (x :: xs) us) : ∃ v vs, us = v :: vs ∧ RVW K xc s σ x v ∧ RWs K xc s σ xs vs := h
theorem RWs.one {x : IA.EV} {us : List V} (h : RWs K xc s σ [x] us) : ∃ v, us = [v] ∧ RVW K xc s σ x v := by
  obtain ⟨v, vs, rfl, h1, h2⟩ := h.consE
  rw [h2.nilE]
  exact ⟨v, rfl, h1⟩
theorem RWs.two {x y : IA.EV} {us : List V} (h : RWs K xc s σ [x, y] us) : ∃ v w, us = [v, w] ∧ RVW K xc s σ x v ∧ RVW K xc s σ y w := by
  obtain ⟨v, vs, rfl, h1, h2⟩ := h.consE
  obtain ⟨w, rfl, h3⟩ := h2.one
  exact ⟨v, w, rfl, h1, h3⟩
/-! ### built-ins by values -/
def BiOk (K : PySem.W.Frag) (xc : XC) (W : WX) (b : IA.Bi) (r : List V → Hp → VK → Prop) : Prop :=
  ∀ s σ st xs us Q, Rel K xc s σ st → RWs K xc s σ xs us → Post K xc s σ W (NE K xc σ Q) (IA.bi b xs st) → r us s.H Q
theorem bi_len : BiOk K xc W .len (BL.uLen K) := by
  intro s σ st xs us Q r rx h
  unfold IA.bi at h
  split at h
  all_goals try contradiction
  · obtain ⟨v, rfl, h1⟩ := rx.one
    cases h1.str
    obtain ⟨hz, h⟩ := Post.chk h
    refine ⟨_, _, rfl, ⟨by rw [ofS_len, ← szL_eq]; exact hz, rfl⟩, ?_⟩
    rw [ofS_len]
    exact finI h r
  · obtain ⟨v, rfl, h1⟩ := rx.one
    obtain ⟨ys, ey, h⟩ := Post.get h
    obtain ⟨a, vs, rfl, h2, h3⟩ := h1.seq r ey
    have hq := finI h r
    rw [← h3.len] at hq
    rcases h2 with h2 | h2
    · exact ⟨_, _, rfl, .inl ⟨vs, h2, rfl⟩, hq⟩
    · exact ⟨_, _, rfl, .inr ⟨vs, h2, rfl⟩, hq⟩
def rIntS : List V → Hp → VK → Prop := fun xs H Q => BL.uInt xs H Q ∨ ∃ a n, xs = [.str a] ∧ PySem.intText? a = some n ∧ a.length ≤ 640 ∧ Q (.int n) H
theorem u_intS {X : Cx} : CallR X (.type "int") rIntS := fun pins s σ H xs us Q I r h => h.elim (BL.u_int pins s σ H xs us Q I r) (call_int_str pins s σ H xs us Q I r)
theorem bi_int : BiOk K xc W .int rIntS := by
  intro s σ st xs us Q r rx h
  unfold IA.bi at h
  split at h
  all_goals try contradiction
  · obtain ⟨v, rfl, h1⟩ := rx.one
    cases h1.i
    exact .inl (.inl ⟨_, rfl, finI h r⟩)
  · obtain ⟨v, rfl, h1⟩ := rx.one
    cases h1.b
    exact .inl (.inr ⟨_, rfl, finI h r⟩)
  · rename_i z
    obtain ⟨v, rfl, h1⟩ := rx.one
    cases h1.str
    obtain ⟨i, ei, h⟩ := Post.get h
    unfold IA.intOf at ei
    obtain ⟨n, en, ei⟩ := Option.bind_eq_some_iff.mp ei
    split at ei
    · rename_i hz
      cases ei
      refine .inr ⟨_, _, rfl, ?_, by rw [ofS_len]; exact hz.2, finI h r⟩
      rw [← hz.1]
      refine TL.int_num ?_
      have e := TL.len_tl (Str.ofString (toString ((n : Nat) : Int)))
      rw [TL.tl_num] at e
      rw [← e, hz.1, ofS_len]
      have := hz.2
      omega
    · cases ei
theorem bi_list : BiOk K xc W .list (BL.uList K) := by
  intro s σ st xs us Q r rx h
  unfold IA.bi at h
  split at h
  all_goals try contradiction
  obtain ⟨v, rfl, h1⟩ := rx.one
  obtain ⟨ys, ey, h⟩ := Post.get h
  obtain ⟨a, vs, rfl, h2, h3⟩ := h1.seq r ey
  exact ⟨a, vs, rfl, h2, fun p n => finL h r h3 n⟩
theorem bi_tuple : BiOk K xc W .tuple (BL.uTuple K) := by
  intro s σ st xs us Q r rx h
  unfold IA.bi at h
  split at h
  all_goals try contradiction
  obtain ⟨v, rfl, h1⟩ := rx.one
  obtain ⟨ys, ey, h⟩ := Post.get h
  obtain ⟨a, vs, rfl, h2, h3⟩ := h1.seq r ey
  rcases h2 with h2 | h2
  · exact ⟨a, vs, rfl, .inl ⟨h2, fun p n => finT h r h3 n⟩⟩
  · refine ⟨a, vs, rfl, .inr ⟨h2, fin h r ?_⟩⟩
    simp only [RV]
    exact ⟨a, vs, rfl, h2, h3⟩
theorem ints_of : ∀ {xs : List IA.Val} {ns : List Int} {us : List V}, IA.intsOf xs = some ns → RVs K xc s xs us → us = ns.map V.int
  | [], ns, us, e, h => by simp only [IA.intsOf] at e; cases e; simp only [RVs] at h; exact h
  | x :: xs, ns, us, e, h => by
    simp only [RVs] at h
    obtain ⟨v, vs, rfl, r, t⟩ := h
    cases x with
    | int i =>
      simp only [IA.intsOf] at e
      obtain ⟨ms, em, e⟩ := Option.map_eq_some_iff.mp e
      cases e
      simp only [RV] at r
      subst r
      rw [ints_of em t]
      rfl
    | _ => simp [IA.intsOf] at e
theorem minI_le : ∀ (l : List Int) (a : Int), IA.minI l a ≤ a ∧ ∀ y ∈ l, IA.minI l a ≤ y
  | [], a => ⟨Int.le_refl _, fun _ h => nomatch h⟩
  | x :: l, a => by
    obtain ⟨h1, h2⟩ := minI_le l (if x < a then x else a)
    have h3 : (if x < a then x else a) ≤ a ∧ (if x < a then x else a) ≤ x := by split <;> omega
    simp only [IA.minI]
    refine ⟨by omega, fun y hy => ?_⟩
    rcases List.mem_cons.mp hy with rfl | hy
    · omega
    · exact h2 y hy
theorem minI_mem : ∀ (l : List Int) (a : Int), IA.minI l a = a ∨ IA.minI l a ∈ l
  | [], a => .inl rfl
  | x :: l, a => by
    simp only [IA.minI]
    rcases minI_mem l (if x < a then x else a) with h | h
    · rw [h]
      split
      · exact .inr List.mem_cons_self
      · exact .inl rfl
    · exact .inr (List.mem_cons_of_mem _ h)
def rMin2 (K : PySem.W.Frag) : List V → Hp → VK → Prop := fun xs H Q => BL.uMin xs H Q ∨ rMin K xs H Q
theorem u_min2 {X : Cx} (hc : X.calm = true) : CallR X (.builtin "min") (rMin2 X.K) := fun pins s σ H xs us Q I r h => h.elim (BL.u_min hc pins s σ H xs us Q I r) (cr_min hc pins s σ H xs us Q I r)
theorem bi_min : BiOk K xc W .min (rMin2 K) := by
  intro s σ st xs us Q r rx h
  unfold IA.bi at h
  split at h
  all_goals try contradiction
  · obtain ⟨v, w, rfl, h1, h2⟩ := rx.two
    cases h1.i; cases h2.i
    exact .inl ⟨_, _, rfl, finI h r⟩
  · obtain ⟨v, rfl, h1⟩ := rx.one
    obtain ⟨ys, ey, h⟩ := Post.get h
    obtain ⟨a, vs, rfl, h2, h3⟩ := h1.list r ey
    obtain ⟨ns, en, h⟩ := Post.get h
    cases ints_of en h3
    cases ns with
    | nil => exact h.elim
    | cons n l =>
      refine .inr ⟨a, n :: l, rfl, SqL.of h2, by simp, fun m hm hl => ?_⟩
      have hq := finI h r
      have e : IA.minI l n = m := by
        obtain ⟨g1, g2⟩ := minI_le l n
        have g3 : IA.minI l n ∈ n :: l := by
          rcases minI_mem l n with z | z
          · rw [z]; exact List.mem_cons_self
          · exact List.mem_cons_of_mem _ z
        have g4 := hl _ g3
        have g5 : IA.minI l n ≤ m := by
          rcases List.mem_cons.mp hm with rfl | hm
          · exact g1
          · exact g2 m hm
        omega
      rw [e] at hq
      exact hq
/-! ### methods of built-in types, by values -/
def MbOk (K : PySem.W.Frag) (xc : XC) (W : WX) (b : IA.Bi) (r : V → List V → Hp → VK → Prop) : Prop :=
  ∀ s σ st x xs u us Q, Rel K xc s σ st → RVW K xc s σ x u → RWs K xc s σ xs us → Post K xc s σ W (NE K xc σ Q) (IA.bi b (x :: xs) st) → r u us s.H Q
theorem mb_append : MbOk K xc W .append rAppend := by
  intro s σ st x xs u us Q r rx ry h
  unfold IA.bi at h
  split at h
  all_goals try contradiction
  rename_i heq
  cases heq
  obtain ⟨w, rfl, h1⟩ := ry.one
  obtain ⟨v, st2, s2, l2, e2, r2, rv, h⟩ := Post.keep r h1 h
  obtain ⟨zs, ez, h⟩ := Post.get h
  obtain ⟨hz, h⟩ := Post.chk h
  obtain ⟨st3, e3, h⟩ := Post.get h
  obtain ⟨a, ws, us, rfl, ha, ra, ea, k⟩ := r2.put (rx.mono r.hp.mt l2) e3
  rw [ez] at ea
  cases ea
  obtain ⟨l3, r3⟩ := k (us ++ [w]) (ra.app (RVs.cons rv RVs.nil))
  refine ⟨a, us, w, rfl, rfl, by rw [← e2]; exact ha, by rw [ra.len, ← szL_eq]; exact hz, ?_⟩
  rw [← e2]
  exact fin (h.mono l3) r3 (by simp only [RV])
end
end IS

set_option Elab.async false
set_option linter.all false
set_option maxRecDepth 100000
set_option maxHeartbeats 2000000
/-! ## The small machine: calls (own text) -/
namespace IS
open PySem PySem.Spec PyProof.Rows L2
/-! ### split -/
section
variable {K : PySem.W.Frag} {xc : XC} {W : WX} {s : Sit} {σ : L2.St} {st st' : IA.St} {Q : VK}
end
/-! ### calls of built-ins -/
section
variable {Γ : IA.Env} {X : Cx} {xc : XC} {W : WX} {e o : Expr} {es : List Expr} {eo : IA.E} {er : IA.Es} {s : Sit} {σ : L2.St} {st : IA.St} {Q : VK} {x : Str} {p pos apos cpos : Pos} {id T : String} {b : IA.Bi}
theorem se_biB {r : List V → Hp → VK → Prop} (hc : CallR X (.builtin id) r) (ok : BiOk X.K xc W b r) (hg : Gl X x) (hm : X.mg x = none) (hv : bootBuiltins x = some (.builtin id)) (ha : SW Γ X xc W (e :: es) er) (hn : x ≠ "__name__" := by decide) (hdb : (x == ("__debug__" : Str)) = false := by decide)
    (he : starEach (e :: es) X.env = (false, eval e X.env) :: starEach es X.env := by rfl) (hpl : (backTo pos (starEach es X.env)).any (·.1) = false := by rfl) : SE Γ X xc W (.Call (.Name x p) (e :: es) [] pos) (.bi b er) := by
  obtain ⟨t, pt, f⟩ := ha.ex
  refine ⟨_, pe_callB hc hg hm hv pt hn hdb he hpl, fun s σ st r Q h => ?_⟩
  simp only [IA.ev] at h
  exact f s σ st r _ (Post.bind h fun xs st1 s1 l1 r1 q1 us rs => ok s1 σ st1 xs us Q r1 rs q1)
theorem se_biT {r : List V → Hp → VK → Prop} (hc : CallR X (.type T) r) (ok : BiOk X.K xc W b r) (hg : Gl X x) (hm : X.mg x = none) (hv : bootBuiltins x = some (.type T)) (ha : SW Γ X xc W (e :: es) er) (hn : x ≠ "__name__" := by decide) (hdb : (x == ("__debug__" : Str)) = false := by decide)
    (he : starEach (e :: es) X.env = (false, eval e X.env) :: starEach es X.env := by rfl) (hpl : (backTo pos (starEach es X.env)).any (·.1) = false := by rfl) : SE Γ X xc W (.Call (.Name x p) (e :: es) [] pos) (.bi b er) := by
  obtain ⟨t, pt, f⟩ := ha.ex
  refine ⟨_, pe_callTy hc hg hm hv pt hn hdb he hpl, fun s σ st r Q h => ?_⟩
  simp only [IA.ev] at h
  exact f s σ st r _ (Post.bind h fun xs st1 s1 l1 r1 q1 us rs => ok s1 σ st1 xs us Q r1 rs q1)
/-- the receiver is of the type -/
def RkOk (K : PySem.W.Frag) (xc : XC) (k : IA.Rk) (T : String) : Prop := ∀ s σ st x u, Rel K xc s σ st → RVW K xc s σ x u → IA.recvOk k x st = true → tyV K T u s.H
theorem rk_list {K : PySem.W.Frag} : RkOk K xc .list "list" := by
  intro s σ st x u r w h
  have h' : (x.list st).isSome = true := by simpa only [IA.recvOk] using h
  obtain ⟨xs, e⟩ := Option.isSome_iff_exists.mp h'
  obtain ⟨a, us, rfl, ha, _⟩ := w.list r e
  exact .inl ⟨rfl, us, SqL.of ha⟩
theorem se_bm {k : IA.Rk} {r : V → List V → Hp → VK → Prop} {name : Str} (pa : PlainAttrs T) (slot : Slot T name id) (hty : typeOf (.builtin id) = pure (.type "method_descriptor")) (hm : MtR X id r) (hk : RkOk X.K xc k T) (ok : MbOk X.K xc W b r)
    (ho : SE Γ X xc W o eo) (ha : SW Γ X xc W (e :: es) er)
    (hbase : attributeBase o name X.env (eval o X.env) = eval o X.env := by rfl)
    (hfew : ((backTo cpos (starEach (e :: es) X.env)).all (fun x => !x.1) && (backToKw cpos (keywordEach [] X.env)).all (fun x => x.1.isSome)
      && decide ((e :: es).length + ([] : List Keyword).length + (if ([] : List Keyword).isEmpty then 0 else 1) < 30)) = true := by rfl)
    (hline : (apos.endLine == cpos.line) = true := by rfl) (hs : starEach (e :: es) X.env = (false, eval e X.env) :: starEach es X.env := by rfl) (hplain : (backTo cpos (starEach es X.env)).any (·.1) = false := by rfl) :
    SE Γ X xc W (.Call (.Attribute o name apos) (e :: es) [] cpos) (.bm k b eo er) := by
  obtain ⟨to, po, fo⟩ := ho.ex
  obtain ⟨t, pt, f⟩ := ha.ex
  refine ⟨_, pe_bm pa slot hty hm po pt hbase hfew hline hs hplain, fun s σ st r Q h => ?_⟩
  simp only [IA.ev] at h
  refine fo s σ st r _ (bindE h fun x st1 s1 u l1 r1 w1 q1 => ?_)
  obtain ⟨hc, q1⟩ := Post.chk q1
  refine ⟨hk s1 σ st1 x u r1 w1 hc, f s1 σ st1 r1 _ (Post.bind q1 fun xs st2 s2 l2 r2 q2 us rs => ?_)⟩
  exact ok s2 σ st2 x xs u us Q r2 (w1.mono r1.hp.mt l2) rs q2
/-! ### calls of the program's defs -/
/-- the entry of a def -/
structure In (K : PySem.W.Frag) (s : Sit) (h : IA.AHeap) : Prop where
  hp : HRel K none s h
/-- what a def promises: it does what the small machine does -/
def SpF (K : PySem.W.Frag) (r : List IA.Val → IA.AHeap → IA.Res IA.AHeap IA.Val) : Sp := fun vs H Q E => ∃ (s : Sit) (h : IA.AHeap) (as : List IA.Val), s.H = H ∧ HRel K none s h ∧ RVs K none s as vs ∧
  match r as h with
  | .ok v h' => ∀ s' u, Le s s' → HRel K none s' h' → RV K none s' v u → Q u s'.H
  | .exc C v h' => ∀ s' d u, Le s s' → HRel K none s' h' → ¬ s'.T d → s'.H d = some (.xd [(Str.ofString (fieldX C), u)]) → RV K none s' v u → E (.ref (He.ga K (Str.ofString C))) (some d) s'.H
  | .stuck => False
/-- the entry's situation: only the heap may be changed -/
def Sit.inn (s : Sit) : Sit := { s with M := fun b => s.M b ∧ ∃ n, s.R n = some b }
theorem Le.inn (s : Sit) : Le s s.inn := ⟨fun _ _ _ h => h, fun _ _ _ h => h, fun _ o h => ⟨o, h⟩, fun _ h => .inl h.1, fun _ h => .inl h, fun _ _ _ h _ => h, fun _ _ h => h, fun _ _ h => .inl h⟩
theorem HRel.inn {K : PySem.W.Frag} {h : IA.AHeap} (r : HRel K xc s h) : HRel K xc s.inn h :=
  ⟨fun b z => r.mt b z.1, r.ex, r.rex, r.inj, r.nxt, fun n c e => let ⟨a, h1, h2, h3⟩ := r.cell n c e; ⟨a, h1, ⟨h2, n, h1⟩, h3.mono r.mt (Le.inn s) rfl⟩⟩
/-- behind a call -/
def Sit.out (s s1 : Sit) (own : Addr → Prop) : Sit := { s1 with M := fun b => s1.M b ∨ own b }
theorem Rel.after {K : PySem.W.Frag} {s1 : Sit} {h1 : IA.AHeap} (r : Rel K xc s σ st) (l : Le s.inn s1) (q : HRel K xc s1 h1) :
    ∃ s', s'.H = s1.H ∧ Le s s' ∧ LeV s1 s' ∧ Rel K xc s' σ ⟨st.σ, h1⟩ := by
  let own : Addr → Prop := fun b => ∃ (i : Nat) (xs : List IA.Val), st.σ[i]? = some (some (IA.SV.own xs)) ∧ σ[i]? = some (some (V.ref b))
  have hown : ∀ b, own b → s.M b ∧ ¬ s.inn.M b ∧ (∃ us, s.H b = some (.lst us)) := fun b ⟨i, xs, h1, h2⟩ => by
    obtain ⟨a, us, g1, g2, g3, g4⟩ := r.own i xs h1
    rw [h2] at g1
    cases g1
    exact ⟨g2, fun z => let ⟨n, hn⟩ := z.2; r.ohp i xs b n h1 h2 hn, us, g3⟩
  have hT : ∀ b, own b → s1.T b := fun b hb => by
    obtain ⟨g1, g2, us, g3⟩ := hown b hb
    exact l.tkp b _ g3 (r.hp.mt b g1) g2
  have L : Le s (Sit.out s s1 own) := ⟨fun b o n e => l.keep b o (fun z => n z.1) e, l.imm, l.trk, fun b h => h.elim (fun h => (l.mu b h).imp (fun z => z.1) id) fun h => .inl (hown b h).1, l.thr, fun b o e t n => l.tkp b o e t fun z => n z.1, l.ref, l.rnew⟩
  have LV : LeV s1 (Sit.out s s1 own) := ⟨fun _ _ _ h => h, fun _ _ _ h => h, fun _ h => .inl h, fun _ _ h => h⟩
  refine ⟨Sit.out s s1 own, rfl, L, LV, ⟨⟨fun b h => h.elim (q.mt b) (hT b), q.ex, q.rex, q.inj, q.nxt, fun n c e => ?_⟩, r.exsM L, r.len, fun i x e => ?_, fun i xs e => ?_, r.oinj, fun i xs a n e1 e2 e3 => ?_⟩⟩
  · obtain ⟨a, h1, h2, h3⟩ := q.cell n c e
    refine ⟨a, h1, .inl h2, ?_⟩
    cases c with
    | lst xs => obtain ⟨us, h, r⟩ := h3; exact ⟨us, h, RVs.monoV LV _ _ r⟩
    | ins C fs => obtain ⟨dx, us, h, r⟩ := h3; exact ⟨dx, us, h, RFs.monoV LV _ _ r⟩
    | dct fs => obtain ⟨us, h, r, nd⟩ := h3; exact ⟨us, h, RFs.monoV LV _ _ r, nd⟩
  · obtain ⟨v, h1, h2⟩ := r.slot i x e
    exact ⟨v, h1, RV.mono r.hp.mt L _ _ h2⟩
  · obtain ⟨b, us, g1, g2, g3, g4⟩ := r.own i xs e
    have hb : own b := ⟨i, xs, e, g1⟩
    exact ⟨b, us, g1, .inr hb, l.keep b _ (hown b hb).2.1 g3, RVs.mono r.hp.mt L _ _ g4⟩
  · obtain ⟨b, us, g1, g2, g3, g4⟩ := r.own i xs e1
    rw [e2] at g1
    cases g1
    rcases l.rnew n a e3 with z | z
    · exact r.ohp i xs a n e1 e2 z
    · have z' : s.H a = none := z
      rw [z'] at g3
      cases g3
/-! values outside of a suite are values inside -/
mutual
theorem RV.xcs {K : PySem.W.Frag} {xc xc' : XC} {s : Sit} : ∀ (x : IA.Val) (v : V), RV K xc' s x v → RV K xc s x v
  | .non, _, h => by simpa only [RV] using h
  | .bl _, _, h => by simpa only [RV] using h
  | .int _, _, h => by simpa only [RV] using h
  | .str _, _, h => by simpa only [RV] using h
  | .tup xs, _, h => by
    simp only [RV] at h ⊢
    obtain ⟨a, us, e, q, r⟩ := h
    exact ⟨a, us, e, q, RVs.xcs xs us r⟩
  | .lst xs, _, h => by
    simp only [RV] at h ⊢
    obtain ⟨a, us, e, q, r⟩ := h
    exact ⟨a, us, e, q, RVs.xcs xs us r⟩
  | .obj C fs, _, h => by
    simp only [RV] at h ⊢
    obtain ⟨a, dx, us, e, n, q, r⟩ := h
    exact ⟨a, dx, us, e, n, q, RFs.xcs fs us r⟩
  | .ref n, _, h => by simpa only [RV] using h
  | .scr xs, _, h => by
    simp only [RV] at h ⊢
    obtain ⟨a, us, e, q, r⟩ := h
    exact ⟨a, us, e, q, RVs.xcs xs us r⟩
theorem RVs.xcs {K : PySem.W.Frag} {xc xc' : XC} {s : Sit} : ∀ (x : List IA.Val) (v : List V), RVs K xc' s x v → RVs K xc s x v
  | [], _, h => by simpa only [RVs] using h
  | x :: xs, _, h => by
    simp only [RVs] at h ⊢
    obtain ⟨v, vs, e, r, t⟩ := h
    exact ⟨v, vs, e, RV.xcs x v r, RVs.xcs xs vs t⟩
theorem RFs.xcs {K : PySem.W.Frag} {xc xc' : XC} {s : Sit} : ∀ (x : List (String × IA.Val)) (v : List (Str × V)), RFs K xc' s x v → RFs K xc s x v
  | [], _, h => by simpa only [RFs] using h
  | (f, x) :: xs, _, h => by
    simp only [RFs] at h ⊢
    obtain ⟨v, vs, e, r, t⟩ := h
    exact ⟨v, vs, e, RV.xcs x v r, RFs.xcs xs vs t⟩
end
/-- a call, read -/
theorem call_read {r : List IA.Val → IA.AHeap → IA.Res IA.AHeap IA.Val} {as : List IA.Val} {us : List V} {E : XK} (rel : Rel X.K none s σ st) (ra : RVs X.K none s as us)
    (h : Post X.K none s σ W (NE X.K none σ Q) (IA.lift st (r as st.h))) (hE : ∀ cls d H, E cls d H = W cls d σ H) : SpF X.K r us s.H Q E := by
  refine ⟨s.inn, st.h, as, rfl, rel.hp.inn, RVs.mono rel.hp.mt (Le.inn s) _ _ ra, ?_⟩
  cases e : r as st.h with
  | ok v h' =>
    rw [e] at h
    intro s1 u l q rv
    obtain ⟨s', e1, L, LV, r'⟩ := rel.after l q
    rw [← e1]
    exact h s' L r' u _ ⟨rfl, RV.monoV LV _ _ rv⟩
  | exc C v h' =>
    rw [e] at h
    intro s1 d u l q nT hd rv
    obtain ⟨s', e1, L, LV, r'⟩ := rel.after l q
    rw [hE, ← e1]
    refine h s' d u L r' (fun z => (LV.thr d z).elim nT fun z => by (rw [z] at hd; cases hd)) (LV.keep d _ nT hd) (RV.monoV LV _ _ rv)
  | stuck => rw [e] at h; exact h
end
end IS
namespace L2
open PySem PySem.Spec PyProof.Rows BL
section
variable {X : Cx} {k : Nat} {f C : Addr} {ps : List Str} {sp : Sp} {W : WX} {x m : Str} {p pos apos : Pos} {e o : Expr} {es : List Expr} {ta : TE} {t : TA}
theorem run_fnA {pins : List (Addr × Obj)} {σ : St} {H : Hp} {s : Shared} {Q : VK} {us : List Value} {vs : List V} (Ca : Cal X.prog X.w X.K X.mg X.base (L2.CX X.prog X.w) k f ps sp) (hr : Room k X.A) (tk : Takes X W)
    (I : Inv X pins σ H s) (r : Vals vs us) (h : sp vs H Q (WE W σ)) : wpAny (model X.prog X.w) X.A (call (.ref f) us) (EP X pins σ Q) X.xe s := by
  obtain ⟨fd, F, b⟩ := Ca.ex
  exact run_fnS F hr b (passAt tk σ) I r h
def tCallA (sp : Sp) (W : WX) (t : TA) : TE := fun σ H Q => t σ H fun vs H1 => sp vs H1 Q (WE W σ)
theorem pe_callA (Ca : Cal X.prog X.w X.K X.mg X.base (L2.CX X.prog X.w) k f ps sp) (hr : Room k X.A) (tk : Takes X W) (hg : Gl X x) (hm : X.mg x = some (.ref f))
    (ha : PA X (e :: es) t) (hdb : (x == ("__debug__" : Str)) = false := by decide +kernel) (he : starEach (e :: es) X.env = (false, eval e X.env) :: starEach es X.env := by rfl) (hpl : (backTo pos (starEach es X.env)).any (·.1) = false := by rfl) :
    PE X (.Call (.Name x p) (e :: es) [] pos) (tCallA sp W t) := by
  refine ⟨fun pins s σ H Q I h => ?_⟩
  refine wpAny_Call_Name_kw (ld_glob I hg hm ?_ hdb)
  refine PySem.W.callWith_K (h₀ := X.base) I.ok.mod.kin Ca.kp (thn (ha.run pos pins s σ H _ I h) fun us s1 ⟨vs, H1, I1, r, q⟩ => ⟨I1.kIn, ?_⟩) he hpl
  exact run_fnA Ca hr tk I1 r q
def tMethA (C : Addr) (m : Str) (sp : Sp) (W : WX) (ta : TE) (t : TA) : TE := fun σ H Q => ta σ H fun x H1 => ∃ a dx fs, x = .ref a ∧ H1 a = some (.ins C dx fs) ∧ fs.lookup m = none ∧ t σ H1 fun vs H2 => sp (x :: vs) H2 Q (WE W σ)
theorem pe_methA {pl : Sem Bool} (he : PE X o ta) (c : Cls X.K C) (hm : Meth X.K C m f) (Ca : Cal X.prog X.w X.K X.mg X.base (L2.CX X.prog X.w) k f ps sp) (hr : Room k X.A) (tk : Takes X W) (ha : PA X (e :: es) t)
    (hst : starEach (e :: es) X.env = (false, eval e X.env) :: starEach es X.env := by rfl) (hpl : (backTo pos (starEach es X.env)).any (·.1) = false := by rfl)
    (ht : eval (.Call (.Attribute o m apos) (e :: es) [] pos) X.env = (do
      let ov ← eval o X.env
      standAt apos.atName
      let (f, first) ← holding [ov] (getMethod ov m pl)
      callWith pos f first (backTo pos (starEach (e :: es) X.env)) (backToKw pos (keywordEach [] X.env))) := by rfl) :
    PE X (.Call (.Attribute o m apos) (e :: es) [] pos) (tMethA C m sp W ta t) := by
  refine ⟨fun pins s σ H Q I h => ?_⟩
  refine PySem.W.methodCall_KW (pl := pl) (thn (he.run pins s σ H _ I h) fun u s1 ⟨x, H1, I1, rx, a, dx, fs, ex, ea, l, q⟩ => ?_) ht
  subst ex
  obtain rfl : u = Value.ref a := rx
  refine getmeth_ok I1 ea c hm l ?_
  refine PySem.W.callWith_K (first := [.ref a]) (h₀ := X.base) I.ok.mod.kin hm.kp (thn (ha.run pos pins s1 σ H1 _ I1 q) fun us s2 ⟨vs, H2, I2, r, q2⟩ => ⟨I2.kIn, ?_⟩) hst hpl
  exact run_fnA (us := .ref a :: us) (vs := .ref a :: vs) Ca hr tk I2 (.cons rfl r) q2
theorem pe_methA0 {pl : Sem Bool} (he : PE X o ta) (c : Cls X.K C) (hm : Meth X.K C m f) (Ca : Cal X.prog X.w X.K X.mg X.base (L2.CX X.prog X.w) k f ps sp) (hr : Room k X.A) (tk : Takes X W)
    (ht : eval (.Call (.Attribute o m apos) [] [] pos) X.env = (do
      let ov ← eval o X.env
      standAt apos.atName
      let (f, first) ← holding [ov] (getMethod ov m pl)
      callWith pos f first (backTo pos (starEach [] X.env)) (backToKw pos (keywordEach [] X.env))) := by rfl) :
    PE X (.Call (.Attribute o m apos) [] [] pos) (tMethA C m sp W ta tNil) := by
  refine ⟨fun pins s σ H Q I h => ?_⟩
  refine PySem.W.methodCall_KW (pl := pl) (thn (he.run pins s σ H _ I h) fun u s1 ⟨x, H1, I1, rx, a, dx, fs, ex, ea, l, q⟩ => ?_) ht
  subst ex
  obtain rfl : u = Value.ref a := rx
  refine getmeth_ok I1 ea c hm l ?_
  exact PySem.W.callWith_K0 (first := [.ref a]) I1.kIn hm.kp (run_fnA (us := [.ref a]) (vs := [.ref a]) Ca hr tk I1 (.cons rfl .nil) q)
def tMakeA (C : Addr) (sp : Sp) (W : WX) (t : TA) : TE := fun σ H Q => t σ H fun vs H1 => ∀ x dx, H1 x = none → H1 dx = none → dx ≠ x →
  sp (.ref x :: vs) (upd (upd H1 dx (.own x)) x (.ins C dx [])) (fun v H2 => v = .non ∧ Q (.ref x) H2) (WE W σ)
theorem run_makeA {pins : List (Addr × Obj)} {σ : St} {H : Hp} {s : Shared} {Q : VK} {us : List Value} {vs : List V} (M : Mk X.K C f) (Ca : Cal X.prog X.w X.K X.mg X.base (L2.CX X.prog X.w) k f ps sp) (hr : Room (k + 1) X.A) (tk : Takes X W) (I : Inv X pins σ H s) (r : Vals vs us)
    (h : ∀ x dx, H x = none → H dx = none → dx ≠ x → sp (.ref x :: vs) (upd (upd H dx (.own x)) x (.ins C dx [])) (fun v H2 => v = .non ∧ Q (.ref x) H2) (WE W σ)) :
    wpAny (model X.prog X.w) X.A (call (.ref C) us) (EP X pins σ Q) X.xe s := by
  obtain ⟨fd, F, hb⟩ := Ca.ex
  have hq := h (s.heap.objs.size + 1) s.heap.objs.size (I.hok.fresh (Nat.le_succ _)) (I.hok.fresh (Nat.le_refl _)) (Nat.ne_of_lt (Nat.lt_succ_self _))
  have I2 := Inv.made (C := C) I
  have r2 : Vals (V.ref (s.heap.objs.size + 1) :: vs) (Value.ref (s.heap.objs.size + 1) :: us) := .cons rfl r
  have hl : (Value.ref (s.heap.objs.size + 1) :: us ++ []).length = ps.length := by
    have e := r2.length
    rw [F.len _ _ _ _ hq] at e
    rw [List.append_nil]
    exact e.symm
  have b := hb _ (Value.ref (s.heap.objs.size + 1) :: us) I2.kIn hl
  rw [List.append_nil] at b
  refine wpAny_call (make_map (f := f) I.kIn M.makes M.init (beq_iff_eq.mp M.fn) (codeAny_mono (F.run _ X.stack _ _ ⟨Value.ref (s.heap.objs.size + 1) :: us, []⟩ (Value.ref (s.heap.objs.size + 1) :: us) _ _ (WE W σ) (hr.make C us [])
    (I2.env0.make C us []) b r2 hq) fun r s' hq' => ?_))
  cases r with
  | error e => exact passAt tk σ pins _ _ e s' I2 hq'
  | ok fl =>
    cases fl with
    | ret u =>
      obtain ⟨v, H', I3, rv, ev, q3⟩ := I2.after hq'
      subst ev
      exact ⟨rv, ⟨V.ref (s.heap.objs.size + 1), H', I3, rfl, q3⟩⟩
    | next => exact False.elim hq'
    | brk => exact False.elim hq'
    | cont => exact False.elim hq'
theorem pe_makeA (M : Mk X.K C f) (Ca : Cal X.prog X.w X.K X.mg X.base (L2.CX X.prog X.w) k f ps sp) (hr : Room (k + 1) X.A) (tk : Takes X W) (hg : Gl X x) (hm : X.mg x = some (.ref C))
    (ha : PA X (e :: es) t) (hdb : (x == ("__debug__" : Str)) = false := by decide +kernel) (he : starEach (e :: es) X.env = (false, eval e X.env) :: starEach es X.env := by rfl) (hpl : (backTo pos (starEach es X.env)).any (·.1) = false := by rfl) :
    PE X (.Call (.Name x p) (e :: es) [] pos) (tMakeA C sp W t) := by
  refine ⟨fun pins s σ H Q I h => ?_⟩
  refine wpAny_Call_Name_kw (ld_glob I hg hm ?_ hdb)
  refine PySem.W.callWith_K (h₀ := X.base) I.ok.mod.kin M.kp (thn (ha.run pos pins s σ H _ I h) fun us s1 ⟨vs, H1, I1, r, q⟩ => ⟨I1.kIn, ?_⟩) he hpl
  exact run_makeA M Ca hr tk I1 r q
end
end L2

set_option Elab.async false
set_option linter.all false
set_option maxRecDepth 100000
set_option maxHeartbeats 2000000
/-! ## The small machine: calls, objects, loops, statements (own text) -/
namespace IS
open PySem PySem.Spec PyProof.Rows L2 BL
section
variable {Γ : IA.Env} {X : Cx} {xc : XC} {W : WX} {e o : Expr} {es : List Expr} {eo ea : IA.E} {er : IA.Es} {s : Sit} {σ : L2.St} {st : IA.St} {Q : VK} {x m : Str} {p pos apos cpos : Pos} {k : Nat} {f C : Addr} {ps : List Str} {g : String}
abbrev CalF (Γ : IA.Env) (X : Cx) (k : Nat) (f : Addr) (ps : List Str) (g : String) : Prop := Cal X.prog X.w X.K X.mg X.base (L2.CX X.prog X.w) k f ps (SpF X.K (Γ.call g))
theorem se_call (Ca : CalF Γ X k f ps g) (hr : Room k X.A) (tk : Takes X W) (hg : Gl X x) (hm : X.mg x = some (.ref f)) (ha : SV Γ X none W (e :: es) er)
    (hdb : (x == ("__debug__" : Str)) = false := by decide +kernel) (he : starEach (e :: es) X.env = (false, eval e X.env) :: starEach es X.env := by rfl) (hpl : (backTo pos (starEach es X.env)).any (·.1) = false := by rfl) :
    SE Γ X none W (.Call (.Name x p) (e :: es) [] pos) (.call g er) := by
  obtain ⟨t, pt, fr⟩ := ha.ex
  refine ⟨_, pe_callA Ca hr tk hg hm pt hdb he hpl, fun s σ st r Q h => ?_⟩
  simp only [IA.ev] at h
  exact fr s σ st r _ (Post.bind h fun vs st1 s1 l1 r1 q1 us rs => call_read r1 rs q1 fun _ _ _ => rfl)
theorem isC_read {K : PySem.W.Frag} {C m : String} {x : IA.EV} {u : V} (r : Rel K none s σ st) (w : RVW K none s σ x u) (h : IA.isC C m x st = true) :
    ∃ a dx fs, u = .ref a ∧ s.H a = some (.ins (He.ga K (Str.ofString C)) dx fs) ∧ fs.lookup (Str.ofString m) = none ∧ ∃ v, x = .val v := by
  unfold IA.isC at h
  split at h
  · rename_i D fs
    simp only [Bool.and_eq_true, decide_eq_true_eq] at h
    obtain ⟨a, dx, us, rfl, n, q, rf⟩ : ∃ a dx us, u = .ref a ∧ ¬ s.T a ∧ s.H a = some (.ins (He.ga K (Str.ofString D)) dx us) ∧ RFs K none s fs us := by simpa only [RVW, RV] using w
    refine ⟨a, dx, us, rfl, by rw [← h.1]; exact q, (RFs.look rf).2 (by simpa using h.2), _, rfl⟩
  · rename_i n
    obtain ⟨a, rfl, h2⟩ := RV.refE (K := K) (xc := none) (s := s) w
    split at h
    · rename_i D fs q
      simp only [Bool.and_eq_true, decide_eq_true_eq] at h
      obtain ⟨b, h3, h4, dx, us, h5, h6⟩ := r.hp.cell n _ q
      rw [h2] at h3
      cases h3
      exact ⟨a, dx, us, rfl, by rw [← h.1]; exact h5, (RFs.look h6).2 (by simpa using h.2), _, rfl⟩
    · exact (Bool.false_ne_true h).elim
  · exact (Bool.false_ne_true h).elim
theorem se_meth {D n : String} {pl : Sem Bool} (c : Cls X.K (He.ga X.K (Str.ofString D))) (hm : Meth X.K (He.ga X.K (Str.ofString D)) (Str.ofString n) f) (Ca : CalF Γ X k f ps (D ++ "." ++ n)) (hr : Room k X.A) (tk : Takes X W) (ho : SE Γ X none W o eo) (ha : SV Γ X none W (e :: es) er) (hz : m = Str.ofString n := by rfl)
    (hst : starEach (e :: es) X.env = (false, eval e X.env) :: starEach es X.env := by rfl) (hpl : (backTo pos (starEach es X.env)).any (·.1) = false := by rfl)
    (ht : eval (.Call (.Attribute o m apos) (e :: es) [] pos) X.env = (do
      let ov ← eval o X.env
      standAt apos.atName
      let (f, first) ← holding [ov] (getMethod ov m pl)
      callWith pos f first (backTo pos (starEach (e :: es) X.env)) (backToKw pos (keywordEach [] X.env))) := by rfl) :
    SE Γ X none W (.Call (.Attribute o m apos) (e :: es) [] pos) (.meth D n eo er) := by
  subst hz
  obtain ⟨to, po, fo⟩ := ho.ex
  obtain ⟨t, pt, fr⟩ := ha.ex
  refine ⟨_, pe_methA po c hm Ca hr tk pt hst hpl ht, fun s σ st r Q h => ?_⟩
  simp only [IA.ev] at h
  refine fo s σ st r _ (bindE h fun x st1 s1 u l1 r1 w1 q1 => ?_)
  split at q1
  · rename_i hc
    obtain ⟨a, dx, fs, rfl, h1, h2, v, rfl⟩ := isC_read r1 w1 hc
    refine ⟨a, dx, fs, rfl, h1, h2, fr s1 σ st1 r1 _ (Post.bind q1 fun vs st2 s2 l2 r2 q2 us rs => ?_)⟩
    exact call_read r2 (RVs.cons (RV.mono r1.hp.mt l2 _ _ w1) rs) q2 fun _ _ _ => rfl
  · exact q1.elim
theorem se_meth0 {D n : String} {pl : Sem Bool} (c : Cls X.K (He.ga X.K (Str.ofString D))) (hm : Meth X.K (He.ga X.K (Str.ofString D)) (Str.ofString n) f) (Ca : CalF Γ X k f ps (D ++ "." ++ n)) (hr : Room k X.A) (tk : Takes X W) (ho : SE Γ X none W o eo) (hz : m = Str.ofString n := by rfl)
    (ht : eval (.Call (.Attribute o m apos) [] [] pos) X.env = (do
      let ov ← eval o X.env
      standAt apos.atName
      let (f, first) ← holding [ov] (getMethod ov m pl)
      callWith pos f first (backTo pos (starEach [] X.env)) (backToKw pos (keywordEach [] X.env))) := by rfl) :
    SE Γ X none W (.Call (.Attribute o m apos) [] [] pos) (.meth D n eo .nil) := by
  subst hz
  obtain ⟨to, po, fo⟩ := ho.ex
  refine ⟨_, pe_methA0 po c hm Ca hr tk ht, fun s σ st r Q h => ?_⟩
  simp only [IA.ev, IA.evv] at h
  refine fo s σ st r _ (bindE h fun x st1 s1 u l1 r1 w1 q1 => ?_)
  split at q1
  · rename_i hc
    obtain ⟨a, dx, fs, rfl, h1, h2, v, rfl⟩ := isC_read r1 w1 hc
    exact ⟨a, dx, fs, rfl, h1, h2, call_read r1 (RVs.cons w1 RVs.nil) q1 fun _ _ _ => rfl⟩
  · exact q1.elim
/-! ### a new object -/
def Sit.mk2 (s : Sit) (n : Nat) (x dx : Addr) (C : Addr) : Sit :=
  ⟨fun b => s.M b ∨ b = x, fun b => s.T b ∨ b = x, fun i => if i = n then some x else s.R i, upd (upd s.H dx (.own x)) x (.ins C dx [])⟩
theorem Rel.mk2 {K : PySem.W.Frag} {C : String} {x dx : Addr} (r : Rel K xc s σ st) (nx : s.H x = none) (ndx : s.H dx = none) (ne : dx ≠ x) :
    Le s (s.mk2 st.h.next x dx (He.ga K (Str.ofString C))) ∧ Rel K xc (s.mk2 st.h.next x dx (He.ga K (Str.ofString C))) σ ⟨st.σ, st.h.new (.ins C [])⟩ := by
  have up : ∀ b o, s.H b = some o → (s.mk2 st.h.next x dx (He.ga K (Str.ofString C))).H b = some o := fun b o e => by
    show upd (upd s.H dx (.own x)) x _ b = some o
    rw [upd_ne (ne_of_none e nx), upd_ne (ne_of_none e ndx)]
    exact e
  have hR : ∀ n a, s.R n = some a → (if n = st.h.next then some x else s.R n) = some a := fun n a e => by
    rw [if_neg fun z => by rw [z, r.hp.nxt _ (Nat.le_refl _)] at e; cases e]
    exact e
  have L : Le s (s.mk2 st.h.next x dx (He.ga K (Str.ofString C))) :=
    ⟨fun b o _ e => up b o e, fun b o _ e => up b o e, fun b o e => ⟨o, up b o e⟩, fun b h => h.imp id fun h => by rw [h]; exact nx, fun b h => h.imp id fun h => by rw [h]; exact nx, fun _ _ _ h _ => .inl h, hR, fun n a e => by
      have e' : (if n = st.h.next then some x else s.R n) = some a := e
      split at e'
      · cases e'; exact .inr nx
      · exact .inl e'⟩
  have hex : ∀ b o, s.H b = some o → b ≠ x := fun b o e => ne_of_none e nx
  refine ⟨L, ⟨⟨fun b h => h.imp (r.hp.mt b) id, fun b h => ?_, fun n a e => ?_, fun n k a e1 e2 => ?_, fun n hn => ?_, fun n c e => ?_⟩, r.exsM L, r.len, fun i y e => ?_, fun i xs e => ?_, r.oinj, fun i xs a n e1 e2 e3 => ?_⟩⟩
  · rcases h with h | h
    · obtain ⟨o, e⟩ := r.hp.ex b h
      exact ⟨o, up b o e⟩
    · exact ⟨_, by rw [h]; exact upd_same⟩
  · have e' : (if n = st.h.next then some x else s.R n) = some a := e
    split at e'
    · cases e'; exact ⟨_, upd_same⟩
    · obtain ⟨o, e2⟩ := r.hp.rex n a e'
      exact ⟨o, up a o e2⟩
  · have e1' : (if n = st.h.next then some x else s.R n) = some a := e1
    have e2' : (if k = st.h.next then some x else s.R k) = some a := e2
    split at e1' <;> split at e2'
    · omega
    · cases e1'
      obtain ⟨o, e3⟩ := r.hp.rex k x e2'
      rw [nx] at e3; cases e3
    · cases e2'
      obtain ⟨o, e3⟩ := r.hp.rex n x e1'
      rw [nx] at e3; cases e3
    · exact r.hp.inj n k a e1' e2'
  · have hn' : st.h.next + 1 ≤ n := hn
    show (if n = st.h.next then some x else s.R n) = none
    rw [if_neg (by omega)]
    exact r.hp.nxt n (by omega)
  · simp only [IA.AHeap.new] at e
    split at e
    · rename_i hm
      cases e
      refine ⟨x, by show (if n = st.h.next then some x else s.R n) = _; rw [if_pos hm], .inr rfl, dx, [], upd_same, ?_⟩
      simp only [RFs]
    · obtain ⟨a, h1, h2, h3⟩ := r.hp.cell n c e
      refine ⟨a, hR n a h1, .inl h2, h3.mono r.hp.mt L ?_⟩
      obtain ⟨o, e2⟩ := r.hp.ex a (r.hp.mt a h2)
      rw [up a o e2, e2]
  · obtain ⟨v, h1, h2⟩ := r.slot i y e
    exact ⟨v, h1, RV.mono r.hp.mt L _ _ h2⟩
  · obtain ⟨b, us, g1, g2, g3, g4⟩ := r.own i xs e
    exact ⟨b, us, g1, .inl g2, up b _ g3, RVs.mono r.hp.mt L _ _ g4⟩
  · have e' : (if n = st.h.next then some x else s.R n) = some a := e3
    obtain ⟨b, us, g1, g2, g3, g4⟩ := r.own i xs e1
    rw [e2] at g1
    cases g1
    split at e'
    · cases e'
      rw [nx] at g3; cases g3
    · exact r.ohp i xs a n e1 e2 e'
/-- the object is not changed any more -/
theorem Rel.froz {K : PySem.W.Frag} {C : String} {x : Addr} {n : Nat} {fs : List (String × IA.Val)} (r : Rel K xc s σ st) (hn : s.R n = some x) (hc : st.h.c n = some (.ins C fs)) :
    ∃ s', s'.H = s.H ∧ Le s s' ∧ Rel K xc s' σ ⟨st.σ, st.h.del n⟩ ∧ RV K xc s' (.obj C fs) (.ref x) := by
  obtain ⟨a, h1, h2, dx, us, h3, h4⟩ := r.hp.cell n _ hc
  rw [hn] at h1
  cases h1
  have L : Le s { s with M := fun b => s.M b ∧ b ≠ x, T := fun b => s.T b ∧ b ≠ x } :=
    ⟨fun _ _ _ e => e, fun _ _ _ e => e, fun _ o e => ⟨o, e⟩, fun _ z => .inl z.1, fun _ z => .inl z.1, fun b o _ t nn => ⟨t, fun z => nn (z ▸ h2)⟩, fun _ _ e => e, fun _ _ e => .inl e⟩
  refine ⟨{ s with M := fun b => s.M b ∧ b ≠ x, T := fun b => s.T b ∧ b ≠ x }, rfl, L, ⟨⟨fun b z => ⟨r.hp.mt b z.1, z.2⟩, fun b z => r.hp.ex b z.1, r.hp.rex, r.hp.inj, r.hp.nxt, fun m c e => ?_⟩, r.exsM L, r.len, fun i y e => ?_, fun i xs e => ?_, r.oinj, r.ohp⟩, ?_⟩
  · simp only [IA.AHeap.del] at e
    split at e
    · cases e
    · rename_i hm
      obtain ⟨b, g1, g2, g3⟩ := r.hp.cell m c e
      exact ⟨b, g1, ⟨g2, fun z => hm (r.hp.inj m n b g1 (by rw [z]; exact hn))⟩, g3.mono r.hp.mt L rfl⟩
  · obtain ⟨v, h1, h2⟩ := r.slot i y e
    exact ⟨v, h1, RV.mono r.hp.mt L _ _ h2⟩
  · obtain ⟨b, vs, g1, g2, g3, g4⟩ := r.own i xs e
    exact ⟨b, vs, g1, ⟨g2, fun z => r.ohp i xs b n e g1 (by rw [z]; exact hn)⟩, g3, RVs.mono r.hp.mt L _ _ g4⟩
  · simp only [RV]
    exact ⟨x, dx, us, rfl, fun z => z.2 rfl, h3, RFs.mono r.hp.mt L _ _ h4⟩
theorem mk_read {D : String} {as : List IA.Val} {us : List V} {x dx : Addr} (rel : Rel X.K none s σ st) (ra : RVs X.K none s as us) (h : Post X.K none s σ W (NE X.K none σ Q) (IA.mkE Γ D as st))
    (nx : s.H x = none) (ndx : s.H dx = none) (ne : dx ≠ x) : SpF X.K (Γ.call (D ++ ".__init__")) (.ref x :: us) (upd (upd s.H dx (.own x)) x (.ins (He.ga X.K (Str.ofString D)) dx [])) (fun v H2 => v = .non ∧ Q (.ref x) H2) (WE W σ) := by
  obtain ⟨L, r2⟩ := rel.mk2 (C := D) nx ndx ne
  have hx : (s.mk2 st.h.next x dx (He.ga X.K (Str.ofString D))).R st.h.next = some x := if_pos rfl
  refine ⟨(s.mk2 st.h.next x dx (He.ga X.K (Str.ofString D))).inn, _, .ref st.h.next :: as, rfl, r2.hp.inn, RVs.cons (by simp only [RV]; exact ⟨x, rfl, hx⟩) (RVs.mono r2.hp.mt (Le.inn _) _ _ (RVs.mono rel.hp.mt L _ _ ra)), ?_⟩
  unfold IA.mkE at h
  cases e : Γ.call (D ++ ".__init__") (.ref st.h.next :: as) (st.h.new (.ins D [])) with
  | ok v h' =>
    simp only [e] at h
    intro s1 u l q rv
    cases v with
    | non =>
      simp only [RV] at rv
      subst rv
      obtain ⟨s', e1, L2', LV, r'⟩ := r2.after l q
      have hx' : s'.R st.h.next = some x := L2'.ref _ _ hx
      refine ⟨rfl, ?_⟩
      simp only at h
      split at h
      · split at h
        · rename_i E fs hc
          split at h
          · rename_i hE
            subst hE
            obtain ⟨s3, e3, L3, r3, rv3⟩ := r'.froz hx' hc
            rw [← e1, ← e3]
            exact h s3 ((L.trans L2').trans L3) r3 _ _ ⟨rfl, rv3⟩
          · exact h.elim
        · exact h.elim
      · rw [← e1]
        exact h s' (L.trans L2') r' _ _ ⟨rfl, by simp only [RV]; exact ⟨x, rfl, hx'⟩⟩
    | _ => exact h.elim
  | exc C v h' =>
    simp only [e] at h
    intro s1 d u l q nT hd rv
    obtain ⟨s', e1, L2', LV, r'⟩ := r2.after l q
    show W _ _ _ _
    rw [← e1]
    exact h s' d u (L.trans L2') r' (fun z => (LV.thr d z).elim nT fun z => by (rw [z] at hd; cases hd)) (LV.keep d _ nT hd) (RV.monoV LV _ _ rv)
  | stuck => simp only [e] at h; exact h
theorem se_mk {D : String} (M : Mk X.K (He.ga X.K (Str.ofString D)) f) (Ca : CalF Γ X k f ps (D ++ ".__init__")) (hr : Room (k + 1) X.A) (tk : Takes X W) (hg : Gl X x) (hm : X.mg x = some (.ref (He.ga X.K (Str.ofString D)))) (ha : SV Γ X none W (e :: es) er)
    (hdb : (x == ("__debug__" : Str)) = false := by decide +kernel) (he : starEach (e :: es) X.env = (false, eval e X.env) :: starEach es X.env := by rfl) (hpl : (backTo pos (starEach es X.env)).any (·.1) = false := by rfl) :
    SE Γ X none W (.Call (.Name x p) (e :: es) [] pos) (.mk D er) := by
  obtain ⟨t, pt, fr⟩ := ha.ex
  refine ⟨_, pe_makeA M Ca hr tk hg hm pt hdb he hpl, fun s σ st r Q h => ?_⟩
  simp only [IA.ev] at h
  exact fr s σ st r _ (Post.bind h fun vs st1 s1 l1 r1 q1 us rs x dx nx ndx ne => mk_read r1 rs q1 nx ndx ne)
end
end IS

set_option Elab.async false
set_option linter.all false
set_option maxRecDepth 100000
set_option maxHeartbeats 2000000
/-! ## The small machine: what is walked; comprehensions (own text) -/
namespace L2
open PySem PySem.Spec PyProof.Rows
/-- a list, a tuple, a text -/
def iAny (K : PySem.W.Frag) (te : TE) : TI := fun σ H R => te σ H fun x H1 => (∃ a, x = .ref a ∧ (∃ xs, SqL K H1 a xs) ∧ R (Itl K a) H1) ∨ (∃ a, x = .ref a ∧ (∃ xs, SqT K H1 a xs) ∧ R (Itt K a) H1) ∨ ∃ z, x = .str z ∧ R (Its z) H1
theorem pi_any {X : Cx} {tg l : Expr} {tl : TE} (hl : PE X l tl) : PI X tg l (iAny X.K tl) := by
  refine ⟨fun pins s σ H R I h => ?_⟩
  refine thn (hl.run pins s σ H _ I h) fun v s1 ⟨x, H1, I1, r1, q1⟩ => ?_
  rcases q1 with ⟨a, e, ⟨xs, hq⟩, q⟩ | ⟨a, e, ⟨xs, hq⟩, q⟩ | ⟨z, e, q⟩
  · subst e
    cases r1
    obtain ⟨its, rv, p, hz⟩ := I1.list hq
    refine wpAny_pyIter_list p.isList ?_
    refine ⟨s1.heap.objs.size, [s1.heap.objs.size], _, _, H1, rfl, I1.kept (t' := s1.toks) fun b o e => Heap.get?_push_of_some _ e, turn_list a _, ⟨_, Heap.get?_push_size _ rfl, rfl, rfl⟩, fun b hb => ?_, q⟩
    have e : b = s1.heap.objs.size := by simpa using hb
    subst e
    exact I1.fpOk (Nat.le_refl _) (I1.hok.fresh (Nat.le_refl _))
  · subst e
    cases r1
    obtain ⟨its, rv, p, hz⟩ := I1.tuple hq
    refine wpAny_pyIter_tuple (show s1.heap.IsTuple a its.toArray from p) ?_
    refine ⟨s1.heap.objs.size, [s1.heap.objs.size], _, _, H1, rfl, I1.kept (t' := s1.toks) fun b o e => Heap.get?_push_of_some _ e, turn_tuple a _, ⟨_, Heap.get?_push_size _ rfl, rfl, rfl⟩, fun b hb => ?_, q⟩
    have e : b = s1.heap.objs.size := by simpa using hb
    subst e
    exact I1.fpOk (Nat.le_refl _) (I1.hok.fresh (Nat.le_refl _))
  · subst e
    obtain ⟨t, rfl⟩ := r1
    cases ha : z.cps.all (· < 128)
    · exact wpAny_pyIter_wide ha (pi_one (tk := s1.toks) I1 _ (turn_str _ z t "str_iterator" (.inr rfl)) ⟨_, Heap.get?_push_size _ rfl, rfl, rfl⟩ q)
    · exact wpAny_pyIter_ascii ha (pi_one (tk := s1.toks) I1 _ (turn_str _ z t "str_ascii_iterator" (.inl rfl)) ⟨_, Heap.get?_push_size _ rfl, rfl, rfl⟩ q)
end L2
namespace IS
open PySem PySem.Spec PyProof.Rows L2 BL
/-- what stands at turn i -/
def srcAt (src : IA.Src) (i : Nat) (st : IA.St) : Option (Option IA.Val) :=
  match src with
  | .xs l => some l[i]?
  | .ref n en => IA.itemAt n en i st
def JOk (K : PySem.W.Frag) (xc : XC) (J : It) (src : IA.Src) (s : Sit) : Prop :=
  ∀ s2 σ2 st2, LeV s s2 → Rel K xc s2 σ2 st2 → ∀ i o, srcAt src i st2 = some o → (o = none → J.stop i s2.H) ∧
    ∀ v, o = some v → J.go i s2.H ∧ ∀ x H', J.yld i s2.H x H' → ∃ s3, s3.H = H' ∧ Le s2 s3 ∧ Rel K xc s3 σ2 st2 ∧ RV K xc s3 v x
abbrev NI (K : PySem.W.Frag) (xc : XC) (R : It → Hp → Prop) : Sit → IA.Src → IA.St → Prop := fun s' src _ => ∀ J, JOk K xc J src s' → R J s'.H
structure SI (Γ : IA.Env) (X : Cx) (xc : XC) (W : WX) (tg it : Expr) (a : IA.It) : Prop where
  ex : ∃ wi : TI, PI X tg it wi ∧ ∀ s σ st, Rel X.K xc s σ st → ∀ R, Post X.K xc s σ W (NI X.K xc R) (IA.evi Γ a st) → wi σ s.H R
section
variable {K : PySem.W.Frag} {xc : XC} {s : Sit} {σ : L2.St} {st : IA.St}
theorem get_none {xs : List IA.Val} {us : List V} {i : Nat} (r : RVs K xc s xs us) (h : xs[i]? = none) : us.length ≤ i := by
  rw [r.len]
  exact List.getElem?_eq_none_iff.mp h
theorem j_same {J : It} {src : IA.Src} (hs : ∀ s2 σ2 st2, LeV s s2 → Rel K xc s2 σ2 st2 → ∀ i, srcAt src i st2 = some none → J.stop i s2.H)
    (hg : ∀ s2 σ2 st2, LeV s s2 → Rel K xc s2 σ2 st2 → ∀ i v, srcAt src i st2 = some (some v) → J.go i s2.H ∧ ∀ x H', J.yld i s2.H x H' → H' = s2.H ∧ RV K xc s2 v x) : JOk K xc J src s := by
  intro s2 σ2 st2 l r i o e
  refine ⟨fun h => hs s2 σ2 st2 l r i (h ▸ e), fun v h => ?_⟩
  obtain ⟨h1, h2⟩ := hg s2 σ2 st2 l r i v (h ▸ e)
  refine ⟨h1, fun x H' y => ?_⟩
  obtain ⟨e2, rv⟩ := h2 x H' y
  exact ⟨s2, e2.symm, Le.refl s2, r, rv⟩
theorem j_lst {a : Addr} {us : List V} {l : List IA.Val} (h : FqL K s a us) (r : RVs K xc s l us) : JOk K xc (Itl K a) (.xs l) s := by
  refine j_same (fun s2 σ2 st2 lv _ i e => ?_) fun s2 σ2 st2 lv _ i v e => ?_
  · exact ⟨us, SqL.of (h.mono lv).2, get_none r (Option.some.inj e)⟩
  · obtain ⟨u, e2, rv⟩ := r.get (Option.some.inj e)
    refine ⟨⟨us, u, SqL.of (h.mono lv).2, e2⟩, fun x H' y => ⟨y.1, ?_⟩⟩
    have := y.2 us (SqL.of (h.mono lv).2)
    rw [e2] at this
    cases this
    exact RV.monoV lv _ _ rv
theorem j_tup {a : Addr} {us : List V} {l : List IA.Val} (h : SqT K s.H a us) (r : RVs K xc s l us) : JOk K xc (Itt K a) (.xs l) s := by
  refine j_same (fun s2 σ2 st2 lv _ i e => ?_) fun s2 σ2 st2 lv _ i v e => ?_
  · exact ⟨us, SqT.mono lv h, get_none r (Option.some.inj e)⟩
  · obtain ⟨u, e2, rv⟩ := r.get (Option.some.inj e)
    refine ⟨⟨us, u, SqT.mono lv h, e2⟩, fun x H' y => ⟨y.1, ?_⟩⟩
    have := y.2 us (SqT.mono lv h)
    rw [e2] at this
    cases this
    exact RV.monoV lv _ _ rv
theorem j_str {z : String} : JOk K xc (Its (Str.ofString z)) (.xs (z.toList.map fun c => .str (IA.chStr c))) s := by
  have hsz : (Str.ofString z).cps.size = z.toList.length := by
    rw [← Array.length_toList, tl_of, List.length_map]
  refine j_same (fun s2 σ2 st2 lv _ i e => ?_) fun s2 σ2 st2 lv _ i v e => ?_
  · have e' := List.getElem?_eq_none_iff.mp (Option.some.inj e)
    rw [List.length_map] at e'
    show _ ≤ i
    rw [hsz]; exact e'
  · have e' := Option.some.inj e
    rw [List.getElem?_map] at e'
    obtain ⟨c, ec, ev⟩ := Option.map_eq_some_iff.mp e'
    subst ev
    have hc : (Str.ofString z).cps[i]? = some c.toNat := by
      rw [← Array.getElem?_toList, tl_of, List.getElem?_map, ec]
      rfl
    refine ⟨by show i < _; rw [hsz]; exact (List.getElem?_eq_some_iff.mp ec).1, fun x H' y => ⟨y.1, ?_⟩⟩
    obtain ⟨d, hd, rfl⟩ := y.2
    rw [hc] at hd
    cases hd
    simp only [RV]
    have e3 : (Str.ofString (IA.chStr c)) = ⟨#[c.toNat]⟩ := ext_tl' (by rw [tl_of]; simp [IA.chStr])
    rw [e3]
theorem j_ref {a : Addr} {n : Nat} (h : s.R n = some a) : JOk K xc (Itl K a) (.ref n false) s := by
  have key : ∀ s2 σ2 st2, LeV s s2 → Rel K xc s2 σ2 st2 → ∀ i o, srcAt (.ref n false) i st2 = some o → ∃ xs us, s2.H a = some (.lst us) ∧ RVs K xc s2 xs us ∧ o = xs[i]? := fun s2 σ2 st2 lv r2 i o e => by
    simp only [srcAt, IA.itemAt] at e
    split at e
    · rename_i xs q
      cases e
      obtain ⟨b, h3, h4, us, h5, h6⟩ := r2.hp.cell n _ q
      rw [lv.ref n a h] at h3
      cases h3
      exact ⟨xs, us, h5, h6, by cases xs[i]? <;> rfl⟩
    · cases e
  refine j_same (fun s2 σ2 st2 lv r2 i e => ?_) fun s2 σ2 st2 lv r2 i v e => ?_
  · obtain ⟨xs, us, h5, h6, eo⟩ := key s2 σ2 st2 lv r2 i _ e
    exact ⟨us, SqL.of h5, get_none h6 eo.symm⟩
  · obtain ⟨xs, us, h5, h6, eo⟩ := key s2 σ2 st2 lv r2 i _ e
    obtain ⟨u, e2, rv⟩ := h6.get eo.symm
    refine ⟨⟨us, u, SqL.of h5, e2⟩, fun x H' y => ⟨y.1, ?_⟩⟩
    have := y.2 us (SqL.of h5)
    rw [e2] at this
    cases this
    exact rv
theorem j_rng {lo : Int} {n : Nat} : JOk K xc (Itr lo n) (.xs (IA.rngL lo n)) s := by
  have key : ∀ (n : Nat) (lo : Int) (i : Nat), (IA.rngL lo n)[i]? = if i < n then some (.int (lo + i)) else none := by
    intro n
    induction n with
    | zero => intro lo i; simp [IA.rngL]
    | succ n ih =>
      intro lo i
      cases i with
      | zero => simp [IA.rngL]
      | succ i =>
        simp only [IA.rngL, List.getElem?_cons_succ, ih]
        by_cases h : i < n
        · rw [if_pos h, if_pos (by omega)]
          congr 2
          omega
        · rw [if_neg h, if_neg (by omega)]
  refine j_same (fun s2 σ2 st2 lv _ i e => ?_) fun s2 σ2 st2 lv _ i v e => ?_
  · have e' := Option.some.inj e
    rw [key] at e'
    split at e'
    · cases e'
    · show n ≤ i; omega
  · have e' := Option.some.inj e
    rw [key] at e'
    split at e'
    · cases e'
      refine ⟨by assumption, fun x H' y => ⟨y.1, ?_⟩⟩
      simp only [RV]
      exact y.2
    · cases e'
theorem enum_at : ∀ (l : List IA.Val) (k i : Nat), (IA.enumL k l)[i]? = l[i]?.map fun x => .tup [.int ((k + i : Nat) : Int), x]
  | [], k, i => by simp [IA.enumL]
  | x :: l, k, 0 => by simp [IA.enumL]
  | x :: l, k, i + 1 => by
    simp only [IA.enumL, List.getElem?_cons_succ, enum_at l (k + 1) i]
    congr 1
    funext y
    congr 4
    omega
theorem pair_new {T : Addr} {v w : IA.Val} {x y : V} {st2 : IA.St} {σ2 : L2.St} (r : Rel K xc s σ2 st2) (n : s.H T = none) (h1 : RV K xc s v x) (h2 : RV K xc s w y) :
    ∃ s3, s3.H = upd s.H T (.tup [x, y]) ∧ Le s s3 ∧ Rel K xc s3 σ2 st2 ∧ RV K xc s3 (.tup [v, w]) (.ref T) := by
  refine ⟨s.add T (.tup [x, y]), rfl, Le.add n, r.add n, ?_⟩
  simp only [RV]
  exact ⟨T, _, rfl, SqT.of upd_same, RVs.mono r.hp.mt (Le.add n) _ _ (RVs.cons h1 (RVs.cons h2 RVs.nil))⟩
theorem j_enl {a : Addr} {us : List V} {l : List IA.Val} (h : FqL K s a us) (r : RVs K xc s l us) : JOk K xc (Ite K a) (.xs (IA.enumL 0 l)) s := by
  intro s2 σ2 st2 lv r2 i o e
  have e' : l[i]?.map (fun x => IA.Val.tup [.int ((0 + i : Nat) : Int), x]) = o := by rw [← enum_at]; exact Option.some.inj e
  rw [Nat.zero_add] at e'
  refine ⟨fun h1 => ?_, fun v h1 => ?_⟩
  · subst h1
    exact ⟨us, SqL.of (h.mono lv).2, get_none r (by simpa using e')⟩
  · subst h1
    obtain ⟨y, ey, rfl⟩ := Option.map_eq_some_iff.mp e'
    obtain ⟨u, e2, rv⟩ := r.get ey
    refine ⟨⟨us, u, SqL.of (h.mono lv).2, e2⟩, fun x H' ⟨T, z, ex, hT, hH, hz⟩ => ?_⟩
    have := hz us (SqL.of (h.mono lv).2)
    rw [e2] at this
    cases this
    subst ex; subst hH
    exact pair_new r2 hT (by simp only [RV]) (RV.monoV lv _ _ rv)
theorem j_ent {a : Addr} {us : List V} {l : List IA.Val} (h : SqT K s.H a us) (r : RVs K xc s l us) : JOk K xc (Itet K a) (.xs (IA.enumL 0 l)) s := by
  intro s2 σ2 st2 lv r2 i o e
  have e' : l[i]?.map (fun x => IA.Val.tup [.int ((0 + i : Nat) : Int), x]) = o := by rw [← enum_at]; exact Option.some.inj e
  rw [Nat.zero_add] at e'
  refine ⟨fun h1 => ?_, fun v h1 => ?_⟩
  · subst h1
    exact ⟨us, SqT.mono lv h, get_none r (by simpa using e')⟩
  · subst h1
    obtain ⟨y, ey, rfl⟩ := Option.map_eq_some_iff.mp e'
    obtain ⟨u, e2, rv⟩ := r.get ey
    refine ⟨⟨us, u, SqT.mono lv h, e2⟩, fun x H' ⟨T, z, ex, hT, hH, hz⟩ => ?_⟩
    have := hz us (SqT.mono lv h)
    rw [e2] at this
    cases this
    subst ex; subst hH
    exact pair_new r2 hT (by simp only [RV]) (RV.monoV lv _ _ rv)
theorem j_enr {a : Addr} {n : Nat} (h : s.R n = some a) : JOk K xc (Ite K a) (.ref n true) s := by
  intro s2 σ2 st2 lv r2 i o e
  simp only [srcAt, IA.itemAt] at e
  split at e
  · rename_i xs q
    cases e
    obtain ⟨b, h3, h4, us, h5, h6⟩ := r2.hp.cell n _ q
    rw [lv.ref n a h] at h3
    cases h3
    refine ⟨fun h1 => ?_, fun v h1 => ?_⟩
    · exact ⟨us, SqL.of h5, get_none h6 (by simpa using h1)⟩
    · obtain ⟨y, ey, rfl⟩ := Option.map_eq_some_iff.mp h1
      obtain ⟨u, e2, rv⟩ := h6.get ey
      refine ⟨⟨us, u, SqL.of h5, e2⟩, fun x H' ⟨T, z, ex, hT, hH, hz⟩ => ?_⟩
      have := hz us (SqL.of h5)
      rw [e2] at this
      cases this
      subst ex; subst hH
      exact pair_new r2 hT (by simp only [RV]) rv
  · cases e
end
section
variable {Γ : IA.Env} {X : Cx} {xc : XC} {W : WX} {tg e e2 : Expr} {ea eb : IA.E} {er : IA.Es} {p pos : Pos}
theorem si_seq (h : SE Γ X xc W e ea) : SI Γ X xc W tg e (.seq ea) := by
  obtain ⟨t, pt, f⟩ := h.ex
  refine ⟨_, pi_any pt, fun s σ st r R h => ?_⟩
  simp only [IA.evi] at h
  refine f s σ st r _ (bindE h fun x st1 s1 u l1 r1 w1 q1 => ?_)
  unfold IA.srcOf at q1
  split at q1
  · rename_i n
    obtain ⟨a, rfl, h2⟩ := RV.refE (K := X.K) (xc := xc) (s := s1) w1
    split at q1
    · rename_i xs q
      obtain ⟨b, h3, h4, us, h5, h6⟩ := r1.hp.cell n _ q
      rw [h2] at h3
      cases h3
      exact .inl ⟨a, rfl, ⟨us, SqL.of h5⟩, Post.ok (N := NI X.K xc R) q1 r1 _ (j_ref h2)⟩
    · exact q1.elim
  · obtain ⟨a, us, rfl, hs, rs⟩ := w1.t
    exact .inr (.inl ⟨a, rfl, ⟨us, hs⟩, Post.ok (N := NI X.K xc R) q1 r1 _ (j_tup hs rs)⟩)
  · obtain ⟨a, us, rfl, hs, rs⟩ := RV.lstE (K := X.K) (xc := xc) (s := s1) w1
    exact .inl ⟨a, rfl, ⟨us, SqL.of hs.2⟩, Post.ok (N := NI X.K xc R) q1 r1 _ (j_lst hs rs)⟩
  · cases w1.str
    split at q1
    · exact q1.elim
    · obtain ⟨hz, q1⟩ := Post.chk q1
      exact .inr (.inr ⟨_, rfl, Post.ok (N := NI X.K xc R) q1 r1 _ j_str⟩)
  · obtain ⟨v, st2, s2, l2, e2, r2, rv, q2⟩ := Post.keep r1 w1 q1
    split at q2
    · obtain ⟨a, us, rfl, hs, rs⟩ := rv.lstE
      rw [← e2]
      exact .inl ⟨a, rfl, ⟨us, SqL.of hs.2⟩, Post.ok (N := NI X.K xc R) q2 r2 _ (j_lst hs rs)⟩
    · exact q2.elim
theorem si_rng (hg : Gl X "range") (hm : X.mg "range" = none) (h : SE Γ X xc W e ea) (hs : starEach [e] X.env = [(false, eval e X.env)] := by rfl) (hs0 : starEach (e :: []) X.env = (false, eval e X.env) :: starEach [] X.env := by rfl) :
    SI Γ X xc W tg (.Call (.Name "range" p) [e] [] pos) (.rng ea) := by
  obtain ⟨t, pt, f⟩ := h.ex
  refine ⟨_, pi_range1 hg hm (pa_cons pt pa_nil hs0) hs, fun s σ st r R h => ?_⟩
  simp only [IA.evi] at h
  refine f s σ st r _ (bindE h fun x st1 s1 u l1 r1 w1 q1 => ?_)
  split at q1
  · cases w1.i
    obtain ⟨⟨h1, h2⟩, q1⟩ := Post.chk q1
    exact ⟨_, rfl, h1, h2, Post.ok (N := NI X.K xc R) q1 r1 _ j_rng⟩
  · exact q1.elim
theorem si_enum {tpos : Pos} {elts : List Expr} {kk : Nat} (hg : Gl X "enumerate") (hm : X.mg "enumerate" = none) (h : SE Γ X xc W e ea) (hs : starEach [e] X.env = [(false, eval e X.env)] := by rfl) (hs0 : starEach (e :: []) X.env = (false, eval e X.env) :: starEach [] X.env := by rfl) :
    SI Γ X xc W (.Tuple elts kk tpos) (.Call (.Name "enumerate" p) [e] [] pos) (.enum ea) := by
  obtain ⟨t, pt, f⟩ := h.ex
  refine ⟨_, pi_enumA hg hm (pa_cons pt pa_nil hs0) hs, fun s σ st r R h => ?_⟩
  simp only [IA.evi] at h
  refine f s σ st r _ (bindE h fun x st1 s1 u l1 r1 w1 q1 => ?_)
  unfold IA.srcOf at q1
  split at q1
  · rename_i n
    obtain ⟨a, rfl, h2⟩ := RV.refE (K := X.K) (xc := xc) (s := s1) w1
    split at q1
    · rename_i xs q
      obtain ⟨b, h3, h4, us, h5, h6⟩ := r1.hp.cell n _ q
      rw [h2] at h3
      cases h3
      exact ⟨a, us, rfl, .inl ⟨SqL.of h5, Post.ok (N := NI X.K xc R) q1 r1 _ (j_enr h2)⟩⟩
    · exact q1.elim
  · obtain ⟨a, us, rfl, hs, rs⟩ := w1.t
    exact ⟨a, us, rfl, .inr ⟨hs, Post.ok (N := NI X.K xc R) q1 r1 _ (j_ent hs rs)⟩⟩
  · obtain ⟨a, us, rfl, hs, rs⟩ := RV.lstE (K := X.K) (xc := xc) (s := s1) w1
    exact ⟨a, us, rfl, .inl ⟨SqL.of hs.2, Post.ok (N := NI X.K xc R) q1 r1 _ (j_enl hs rs)⟩⟩
  · split at q1
    · exact q1.elim
    · rename_i hh; exact (hh rfl).elim
  · obtain ⟨v, st2, s2, l2, e2, r2, rv, q2⟩ := Post.keep r1 w1 q1
    split at q2
    · obtain ⟨a, us, rfl, hs, rs⟩ := rv.lstE
      refine ⟨a, us, rfl, .inl ?_⟩
      rw [← e2]
      exact ⟨SqL.of hs.2, Post.ok (N := NI X.K xc R) q2 r2 _ (j_enl hs rs)⟩
    · exact q2.elim
end
/-! ### statements -/
def PostS (K : PySem.W.Frag) (xc : XC) (s : Sit) (W : WX) (D : Ends) : IA.Res IA.St IA.Flow → Prop
  | .ok .nxt st' => ∀ s' σ', Le s s' → Rel K xc s' σ' st' → D.nx σ' s'.H
  | .ok .brk st' => ∀ s' σ', Le s s' → Rel K xc s' σ' st' → D.bk σ' s'.H
  | .ok (.ret v) st' => ∀ s' σ' u, Le s s' → Rel K xc s' σ' st' → RV K xc s' v u → D.rt u s'.H
  | .exc C v st' => ∀ s' σ', Le s s' → PostX K xc s' σ' W C v st'
  | .stuck => False
/-- only the names vs were stored -/
def Chg (vs : List Nat) (σ σ' : L2.St) : Prop := σ'.length = σ.length ∧ ∀ j : Nat, j ∉ vs → σ'[j]? = σ[j]?
theorem Chg.refl (vs : List Nat) (σ : L2.St) : Chg vs σ σ := ⟨rfl, fun _ _ => rfl⟩
theorem Chg.trans {vs ws : List Nat} {σ σ1 σ2 : L2.St} (a : Chg vs σ σ1) (b : Chg ws σ1 σ2) : Chg (vs ++ ws) σ σ2 :=
  ⟨b.1.trans a.1, fun j h => (b.2 j fun z => h (List.mem_append_right _ z)).trans (a.2 j fun z => h (List.mem_append_left _ z))⟩
/-- behind a store -/
def PostG (K : PySem.W.Frag) (xc : XC) (s : Sit) (σ : L2.St) (W : WX) (vs : List Nat) (N : L2.St → Hp → Prop) : IA.Res IA.St Unit → Prop
  | .ok _ st' => ∀ s' σ', Le s s' → Rel K xc s' σ' st' → Chg vs σ σ' → N σ' s'.H
  | .exc C v st' => ∀ s' σ', Le s s' → PostX K xc s' σ' W C v st'
  | .stuck => False
structure SG (Γ : IA.Env) (X : Cx) (xc : XC) (W : WX) (e : Expr) (a : IA.Tg) : Prop where
  ex : ∃ g : TG, PG X e g ∧ ∀ s σ st, Rel X.K xc s σ st → ∀ x u H0, RVE X.K xc s σ x u H0 → ∀ N, PostG X.K xc s σ W a.slots N (IA.asg Γ a x st) → g u σ H0 N
structure SGs (Γ : IA.Env) (X : Cx) (xc : XC) (W : WX) (es : List Expr) (a : IA.Tgs) : Prop where
  ex : ∃ g : TGs, PGs X es g ∧ ∀ s σ st, Rel X.K xc s σ st → ∀ xs us, RVs X.K xc s xs us → ∀ N, PostG X.K xc s σ W a.slots N (IA.asgs Γ a xs st) → g us σ s.H N
structure SS (Γ : IA.Env) (X : Cx) (xc : XC) (W : WX) (st : Stmt) (a : IA.S) : Prop where
  ex : ∃ t : TS, PS X st t ∧ ∀ s σ c, Rel X.K xc s σ c → ∀ D, PostS X.K xc s W D (IA.exec Γ a c) → t D σ s.H
structure SSs (Γ : IA.Env) (X : Cx) (xc : XC) (W : WX) (sts : List Stmt) (a : IA.Ss) : Prop where
  ex : ∃ t : TS, PSs X sts t ∧ ∀ s σ c, Rel X.K xc s σ c → ∀ D, PostS X.K xc s W D (IA.execs Γ a c) → t D σ s.H
section
variable {K : PySem.W.Frag} {xc : XC} {W : WX} {s s' : Sit} {σ : L2.St} {st : IA.St} {D : Ends} {β : Type}
theorem PostS.mono {r : IA.Res IA.St IA.Flow} (h : PostS K xc s W D r) (l : Le s s') : PostS K xc s' W D r := by
  cases r with
  | ok f c =>
    cases f with
    | nxt => exact fun s2 σ2 l2 r2 => h s2 σ2 (l.trans l2) r2
    | brk => exact fun s2 σ2 l2 r2 => h s2 σ2 (l.trans l2) r2
    | ret v => exact fun s2 σ2 u l2 r2 => h s2 σ2 u (l.trans l2) r2
  | exc C v c => exact fun s2 σ2 l2 => h s2 σ2 (l.trans l2)
  | stuck => exact h
theorem PostG.mono {vs : List Nat} {N : L2.St → Hp → Prop} {r : IA.Res IA.St Unit} (h : PostG K xc s σ W vs N r) (l : Le s s') : PostG K xc s' σ W vs N r := by
  cases r with
  | ok f c => exact fun s2 σ2 l2 r2 => h s2 σ2 (l.trans l2) r2
  | exc C v c => exact fun s2 σ2 l2 => h s2 σ2 (l.trans l2)
  | stuck => exact h
/-- an expression within a statement -/
theorem PostS.bind {α : Type} {N1 : Sit → α → IA.St → Prop} {r : IA.Res IA.St α} {f : α → IA.St → IA.Res IA.St IA.Flow} (h : PostS K xc s W D (r.bind f))
    (k : ∀ a st' s', Le s s' → Rel K xc s' σ st' → PostS K xc s' W D (f a st') → N1 s' a st') : Post K xc s σ W N1 r := by
  cases r with
  | ok a st' => exact fun s' l r' => k a st' s' l r' (PostS.mono h l)
  | exc C v st' => exact h s σ (Le.refl s)
  | stuck => exact h
theorem PostG.bind {vs : List Nat} {α : Type} {N : L2.St → Hp → Prop} {N1 : Sit → α → IA.St → Prop} {r : IA.Res IA.St α} {f : α → IA.St → IA.Res IA.St Unit} (h : PostG K xc s σ W vs N (r.bind f))
    (k : ∀ a st' s', Le s s' → Rel K xc s' σ st' → PostG K xc s' σ W vs N (f a st') → N1 s' a st') : Post K xc s σ W N1 r := by
  cases r with
  | ok a st' => exact fun s' l r' => k a st' s' l r' (PostG.mono h l)
  | exc C v st' => exact h s σ (Le.refl s)
  | stuck => exact h
theorem PostS.get {α : Type} {o : Option α} {f : α → IA.Res IA.St IA.Flow} (h : PostS K xc s W D (IA.Res.get o f)) : ∃ a, o = some a ∧ PostS K xc s W D (f a) := by
  cases o with
  | none => exact h.elim
  | some a => exact ⟨a, rfl, h⟩
theorem PostG.get {vs : List Nat} {N : L2.St → Hp → Prop} {α : Type} {o : Option α} {f : α → IA.Res IA.St Unit} (h : PostG K xc s σ W vs N (IA.Res.get o f)) : ∃ a, o = some a ∧ PostG K xc s σ W vs N (f a) := by
  cases o with
  | none => exact h.elim
  | some a => exact ⟨a, rfl, h⟩
theorem PostS.chk {c : Prop} [Decidable c] {r : IA.Res IA.St IA.Flow} (h : PostS K xc s W D (IA.Res.chk c r)) : c ∧ PostS K xc s W D r := by
  unfold IA.Res.chk at h
  split at h
  · exact ⟨by assumption, h⟩
  · exact h.elim
/-- .. weakly -/
theorem bindS {Q : VK} {r : IA.Res IA.St IA.EV} {f : IA.EV → IA.St → IA.Res IA.St IA.Flow} (h : PostS K xc s W D (r.bind f))
    (k : ∀ x st' s' u, Le s s' → Rel K xc s' σ st' → RVW K xc s' σ x u → PostS K xc s' W D (f x st') → Q u s'.H) : Post K xc s σ W (NE K xc σ Q) r := by
  refine PostS.bind h fun x st' s' l r' q u H' e => ?_
  obtain ⟨s2, l2, e2, r2, w⟩ := e.weak r'
  rw [← e2]
  exact k x st' s2 u (l.trans l2) r2 w (q.mono l2)
theorem bindG {vs : List Nat} {N : L2.St → Hp → Prop} {Q : VK} {r : IA.Res IA.St IA.EV} {f : IA.EV → IA.St → IA.Res IA.St Unit} (h : PostG K xc s σ W vs N (r.bind f))
    (k : ∀ x st' s' u, Le s s' → Rel K xc s' σ st' → RVW K xc s' σ x u → PostG K xc s' σ W vs N (f x st') → Q u s'.H) : Post K xc s σ W (NE K xc σ Q) r := by
  refine PostG.bind h fun x st' s' l r' q u H' e => ?_
  obtain ⟨s2, l2, e2, r2, w⟩ := e.weak r'
  rw [← e2]
  exact k x st' s2 u (l.trans l2) r2 w (q.mono l2)
end
end IS

set_option Elab.async false
set_option linter.all false
set_option maxRecDepth 100000
set_option maxHeartbeats 2000000
/-! ## The small machine: stores, statements (own text) -/
namespace IS
open PySem PySem.Spec PyProof.Rows L2 BL
section
variable {K : PySem.W.Frag} {xc : XC} {W : WX} {s s' : Sit} {σ : L2.St} {st st' : IA.St}
/-! ### a name is stored -/
theorem Rel.setV (r : Rel K xc s σ st) (i : Nat) {v : IA.Val} {u : V} (rv : RV K xc s v u) : Rel K xc s (σ.set i (some u)) (st.set i (.v v)) := by
  have f : ∀ (j : Nat) (ys : List IA.Val), (st.set i (.v v)).σ[j]? = some (some (IA.SV.own ys)) → j ≠ i ∧ st.σ[j]? = some (some (IA.SV.own ys)) := fun j ys e => by
    simp only [IA.St.set] at e
    by_cases hj : j = i
    · subst hj
      by_cases hlt : j < st.σ.length
      · rw [List.getElem?_set_self hlt] at e
        cases e
      · rw [List.getElem?_set_self' ] at e
        rw [List.getElem?_eq_none (by omega)] at e
        cases e
    · exact ⟨hj, by rwa [List.getElem?_set_ne (Ne.symm hj)] at e⟩
  refine ⟨r.hp, fun j C y e => ?_, by simpa [IA.St.set] using r.len, fun j x e => ?_, fun j ys e => ?_, fun j k xs ys a e1 e2 e3 e4 => ?_, fun j ys a n e1 e2 => ?_⟩
  · simp only [IA.St.set] at e
    by_cases hj : j = i
    · subst hj
      have hlt : j < st.σ.length := by
        have := (List.getElem?_eq_some_iff.mp e).1
        simpa using this
      rw [List.getElem?_set_self hlt] at e
      cases e
    · rw [List.getElem?_set_ne (Ne.symm hj)] at e ⊢
      exact r.exs j C y e
  · simp only [IA.St.set] at e
    by_cases hj : j = i
    · subst hj
      have hlt : j < st.σ.length := by
        have := (List.getElem?_eq_some_iff.mp e).1
        simpa using this
      rw [List.getElem?_set_self hlt] at e
      cases e
      exact ⟨u, by rw [List.getElem?_set_self (by rw [← r.len]; exact hlt)], rv⟩
    · rw [List.getElem?_set_ne (Ne.symm hj)] at e
      obtain ⟨w, h1, h2⟩ := r.slot j x e
      exact ⟨w, by rw [List.getElem?_set_ne (Ne.symm hj)]; exact h1, h2⟩
  · obtain ⟨hj, e'⟩ := f j ys e
    obtain ⟨b, us, h1, h2, h3, h4⟩ := r.own j ys e'
    exact ⟨b, us, by rw [List.getElem?_set_ne (Ne.symm hj)]; exact h1, h2, h3, h4⟩
  · obtain ⟨hj, e1'⟩ := f j xs e1
    obtain ⟨hk, e2'⟩ := f k ys e2
    rw [List.getElem?_set_ne (Ne.symm hj)] at e3
    rw [List.getElem?_set_ne (Ne.symm hk)] at e4
    exact r.oinj j k xs ys a e1' e2' e3 e4
  · obtain ⟨hj, e1'⟩ := f j ys e1
    rw [List.getElem?_set_ne (Ne.symm hj)] at e2
    exact r.ohp j ys a n e1' e2
/-- .. as the owner of a new list -/
def Sit.own (s : Sit) (p : Addr) (o : HO) : Sit := ⟨fun b => s.M b ∨ b = p, fun b => s.T b ∨ b = p, s.R, upd s.H p o⟩
theorem Le.own {p : Addr} {o : HO} (n : s.H p = none) : Le s (s.own p o) where
  keep := fun b u _ e => by show upd s.H p o b = some u; rw [upd_ne (ne_of_none e n)]; exact e
  imm := fun b u _ e => by show upd s.H p o b = some u; rw [upd_ne (ne_of_none e n)]; exact e
  trk := fun b u e => ⟨u, by show upd s.H p o b = some u; rw [upd_ne (ne_of_none e n)]; exact e⟩
  mu := fun b h => h.imp id fun h => by rw [h]; exact n
  thr := fun b h => h.imp id fun h => by rw [h]; exact n
  tkp := fun _ _ _ h _ => .inl h
  ref := fun _ _ h => h
  rnew := fun _ _ h => .inl h
theorem Rel.grown {p : Addr} {o : HO} (r : Rel K xc s σ st) (n : s.H p = none) : Rel K xc (s.own p o) σ st :=
  r.grow (Le.own n) (fun b m => ⟨.inl m, by
    obtain ⟨u, e⟩ := r.hp.ex b (r.hp.mt b m)
    show upd s.H p o b = s.H b
    rw [upd_ne (ne_of_none e n)]⟩) (fun b h => h.imp (r.hp.mt b) id) (fun b t => by
      rcases t with t | t
      · obtain ⟨u, e⟩ := r.hp.ex b t; exact (Le.own n).trk b u e
      · exact ⟨o, by rw [t]; exact upd_same⟩) rfl
theorem Rel.setOwn (r : Rel K xc s σ st) (i : Nat) {xs : List IA.Val} {us : List V} {p : Addr} (n : s.H p = none) (rs : RVs K xc s xs us) :
    Rel K xc (s.own p (.lst us)) (σ.set i (some (.ref p))) (st.set i (.own xs)) := by
  have g := r.grown (o := .lst us) n
  have rs' := RVs.mono r.hp.mt (Le.own (o := .lst us) n) _ _ rs
  have hp : ∀ (j : Nat) ys, st.σ[j]? = some (some (IA.SV.own ys)) → σ[j]? ≠ some (some (V.ref p)) := fun j ys e e2 => by
    obtain ⟨b, vs, h1, h2, h3, h4⟩ := r.own j ys e
    rw [e2] at h1
    cases h1
    rw [n] at h3
    cases h3
  have f : ∀ (j : Nat) (ys : List IA.Val), (st.set i (.own xs)).σ[j]? = some (some (IA.SV.own ys)) → (j = i ∧ ys = xs ∧ j < st.σ.length) ∨ (j ≠ i ∧ st.σ[j]? = some (some (IA.SV.own ys))) := fun j ys e => by
    simp only [IA.St.set] at e
    by_cases hj : j = i
    · subst hj
      have hlt : j < st.σ.length := by
        have := (List.getElem?_eq_some_iff.mp e).1
        simpa using this
      rw [List.getElem?_set_self hlt] at e
      cases e
      exact .inl ⟨rfl, rfl, hlt⟩
    · exact .inr ⟨hj, by rwa [List.getElem?_set_ne (Ne.symm hj)] at e⟩
  refine ⟨g.hp, fun j C y e => by
    simp only [IA.St.set] at e
    by_cases hj : j = i
    · subst hj
      have hlt : j < st.σ.length := by
        have := (List.getElem?_eq_some_iff.mp e).1
        simpa using this
      rw [List.getElem?_set_self hlt] at e
      cases e
    · rw [List.getElem?_set_ne (Ne.symm hj)] at e ⊢
      exact g.exs j C y e, by simpa [IA.St.set] using g.len, fun j x e => ?_, fun j ys e => ?_, fun j k ws ys a e1 e2 e3 e4 => ?_, fun j ys a m e1 e2 e3 => ?_⟩
  · simp only [IA.St.set] at e
    by_cases hj : j = i
    · subst hj
      have hlt : j < st.σ.length := by
        have := (List.getElem?_eq_some_iff.mp e).1
        simpa using this
      rw [List.getElem?_set_self hlt] at e
      cases e
    · rw [List.getElem?_set_ne (Ne.symm hj)] at e
      obtain ⟨w, h1, h2⟩ := g.slot j x e
      exact ⟨w, by rw [List.getElem?_set_ne (Ne.symm hj)]; exact h1, h2⟩
  · rcases f j ys e with ⟨hj, hy, hlt⟩ | ⟨hj, e'⟩
    · subst hj; subst hy
      exact ⟨p, us, by rw [List.getElem?_set_self (by rw [← r.len]; exact hlt)], .inr rfl, upd_same, rs'⟩
    · obtain ⟨b, vs, h1, h2, h3, h4⟩ := g.own j ys e'
      exact ⟨b, vs, by rw [List.getElem?_set_ne (Ne.symm hj)]; exact h1, h2, h3, h4⟩
  · rcases f j ws e1 with ⟨hj, _, hlt⟩ | ⟨hj, e1'⟩ <;> rcases f k ys e2 with ⟨hk, _, hlk⟩ | ⟨hk, e2'⟩
    · omega
    · subst hj
      rw [List.getElem?_set_self (by rw [← r.len]; exact hlt)] at e3
      cases e3
      rw [List.getElem?_set_ne (Ne.symm hk)] at e4
      exact (hp k ys e2' e4).elim
    · subst hk
      rw [List.getElem?_set_self (by rw [← r.len]; exact hlk)] at e4
      cases e4
      rw [List.getElem?_set_ne (Ne.symm hj)] at e3
      exact (hp j ws e1' e3).elim
    · rw [List.getElem?_set_ne (Ne.symm hj)] at e3
      rw [List.getElem?_set_ne (Ne.symm hk)] at e4
      exact r.oinj j k ws ys a e1' e2' e3 e4
  · rcases f j ys e1 with ⟨hj, _, hlt⟩ | ⟨hj, e1'⟩
    · subst hj
      rw [List.getElem?_set_self (by rw [← r.len]; exact hlt)] at e2
      cases e2
      obtain ⟨o, e4⟩ := r.hp.rex m p e3
      rw [n] at e4
      cases e4
    · rw [List.getElem?_set_ne (Ne.symm hj)] at e2
      exact r.ohp j ys a m e1' e2 e3
theorem chg_set (i : Nat) (x : Option V) : Chg [i] σ (σ.set i x) := ⟨by simp, fun j h => by rw [List.getElem?_set_ne (fun z => h (by rw [z]; exact List.mem_singleton.mpr rfl))]⟩
end
section
variable {Γ : IA.Env} {X : Cx} {xc : XC} {W : WX} {e a b : Expr} {es : List Expr} {ea eb : IA.E} {tg : IA.Tg} {tgs : IA.Tgs} {pos : Pos}
theorem PostG.keep {vs : List Nat} {s : Sit} {σ : L2.St} {st : IA.St} {x : IA.EV} {f : IA.Val → IA.St → IA.Res IA.St Unit} {u : V} {N : L2.St → Hp → Prop} {K : PySem.W.Frag} (r : Rel K xc s σ st) (w : RVW K xc s σ x u) (h : PostG K xc s σ W vs N (x.keep st f)) :
    ∃ v st' s', Le s s' ∧ s'.H = s.H ∧ Rel K xc s' σ st' ∧ RV K xc s' v u ∧ PostG K xc s' σ W vs N (f v st') := by
  rcases keep_ok (f := f) r w with e | ⟨v, st', s', l, e, r', rv, e2⟩
  · rw [e] at h; exact h.elim
  · rw [e2] at h; exact ⟨v, st', s', l, e, r', rv, h.mono l⟩
theorem PostS.keep {s : Sit} {σ : L2.St} {st : IA.St} {x : IA.EV} {f : IA.Val → IA.St → IA.Res IA.St IA.Flow} {u : V} {D : Ends} {K : PySem.W.Frag} (r : Rel K xc s σ st) (w : RVW K xc s σ x u) (h : PostS K xc s W D (x.keep st f)) :
    ∃ v st' s', Le s s' ∧ s'.H = s.H ∧ Rel K xc s' σ st' ∧ RV K xc s' v u ∧ PostS K xc s' W D (f v st') := by
  rcases keep_ok (f := f) r w with e | ⟨v, st', s', l, e, r', rv, e2⟩
  · rw [e] at h; exact h.elim
  · rw [e2] at h; exact ⟨v, st', s', l, e, r', rv, h.mono l⟩
/-! ### targets -/
theorem name_read {i : Nat} {s : Sit} {σ : L2.St} {st : IA.St} {x : IA.EV} {u : V} {H0 : Hp} {N : L2.St → Hp → Prop} (r : Rel X.K xc s σ st) (e : RVE X.K xc s σ x u H0) (h : PostG X.K xc s σ W [i] N (IA.asg Γ (.name i) x st)) : N (σ.set i (some u)) H0 := by
  cases x with
  | val v =>
    simp only [IA.asg] at h
    obtain ⟨e1, e2⟩ := e
    subst e1
    exact h s _ (Le.refl s) (r.setV i e2) (chg_set i _)
  | new xs =>
    simp only [IA.asg] at h
    obtain ⟨p, us, rfl, n, e1, rs⟩ := e
    subst e1
    exact h (s.own p (.lst us)) _ (Le.own n) (r.setOwn i n rs) (chg_set i _)
  | own j =>
    simp only [IA.asg] at h
    obtain ⟨e1, e2⟩ := e
    subst e1
    rcases keep_ok (f := fun v s => IA.Res.ok () (s.set i (.v v))) r (show RVW X.K xc s σ (.own j) u from e2) with z | ⟨v, st', s', l, e3, r', rv, z⟩
    · rw [z] at h; exact h.elim
    · rw [z] at h
      rw [← e3]
      exact h s' _ l (r'.setV i rv) (chg_set i _)
theorem sg_name {i : Nat} (h : PG X e (gName i)) : SG Γ X xc W e (.name i) :=
  ⟨_, h, fun s σ st r x u H0 e N q => name_read r e q⟩
theorem sgs_nil : SGs Γ X xc W [] .nil := by
  refine ⟨_, pgs_nil, fun s σ st r xs us rs N h => ?_⟩
  cases xs with
  | nil =>
    simp only [IA.asgs] at h
    simp only [RVs] at rs
    exact ⟨rs, h s σ (Le.refl s) r (Chg.refl _ _)⟩
  | cons x xs => simp only [IA.asgs] at h; exact h.elim
theorem sgs_cons (h1 : SG Γ X xc W e tg) (h2 : SGs Γ X xc W es tgs) (hs : (assignEach (e :: es) X.env).map (·.2) = assign e X.env :: (assignEach es X.env).map (·.2) := by rfl) : SGs Γ X xc W (e :: es) (.cons tg tgs) := by
  obtain ⟨g, pg, f⟩ := h1.ex
  obtain ⟨gs, pgs, fs⟩ := h2.ex
  refine ⟨_, pgs_cons pg pgs hs, fun s σ st r xs us rs N h => ?_⟩
  cases xs with
  | nil => simp only [IA.asgs] at h; exact h.elim
  | cons x xs =>
    simp only [IA.asgs] at h
    simp only [RVs] at rs
    obtain ⟨v, vs, rfl, rv, rs⟩ := rs
    refine ⟨v, vs, rfl, f s σ st r (.val x) v s.H ⟨rfl, rv⟩ _ ?_⟩
    cases q : IA.asg Γ tg (.val x) st with
    | ok z st1 =>
      rw [q] at h
      intro s1 σ1 l1 r1 c1
      refine fs s1 σ1 st1 r1 xs vs (RVs.mono r.hp.mt l1 _ _ rs) N ?_
      have h' : PostG X.K xc s σ W (tg.slots ++ tgs.slots) N (IA.asgs Γ tgs xs st1) := h
      cases q2 : IA.asgs Γ tgs xs st1 with
      | ok z2 st2 =>
        rw [q2] at h'
        exact fun s2 σ2 l2 r2 c2 => h' s2 σ2 (l1.trans l2) r2 (c1.trans c2)
      | exc C v c =>
        rw [q2] at h'
        exact fun s2 σ2 l2 => h' s2 σ2 (l1.trans l2)
      | stuck => rw [q2] at h'; exact h'
    | exc C v c =>
      rw [q] at h
      exact h
    | stuck => rw [q] at h; exact h
theorem sg_tup {k n : Nat} (hc : X.calm = true) (h : SGs Γ X xc W es tgs) (hn : (assignEach es X.env).length = n := by rfl) (hl : tgs.len = n := by rfl) (hst : (assignEach es X.env).findIdx? (·.1) = none := by rfl) : SG Γ X xc W (.Tuple es k pos) (.tup tgs) := by
  obtain ⟨g, pg, f⟩ := h.ex
  refine ⟨_, pg_tup hc pg hn hst, fun s σ st r x u H0 e N q => ?_⟩
  cases x with
  | val v =>
    obtain ⟨e1, e2⟩ := e
    subst e1
    cases v with
    | tup xs =>
      simp only [IA.asg] at q
      obtain ⟨c, us, rfl, hs, rs⟩ := e2.tupE
      unfold IA.Res.chk at q
      split at q
      · rename_i hlen
        exact ⟨c, us, rfl, hs, by rw [rs.len, hlen, hl], f s σ st r xs us rs N q⟩
      · exact q.elim
    | _ => simp only [IA.asg] at q; exact q.elim
  | own j => simp only [IA.asg] at q; exact q.elim
  | new xs => simp only [IA.asg] at q; exact q.elim
theorem sg_sub (ha : SE Γ X xc W a ea) (hb : SE Γ X xc W b eb) (hs : ∀ v, assign (.Subscript a b pos) X.env v = (do
      let ov ← holding [v] (eval a X.env)
      let iv ← holding [v, ov] (eval b X.env)
      standAt pos
      holding [v, ov, iv] (setItem ov iv v)
      release [v, ov, iv] []) := by intro _; rfl) : SG Γ X xc W (.Subscript a b pos) (.sub ea eb) := by
  obtain ⟨ta, pa, fa⟩ := ha.ex
  obtain ⟨tb, pb, fb⟩ := hb.ex
  refine ⟨_, pg_sub pa pb set_list hs, fun s σ st r x u H0 e N q => ?_⟩
  obtain ⟨s0, l0, e0, r0, w0⟩ := e.weak r
  subst e0
  simp only [IA.asg] at q
  obtain ⟨v, st1, s1, l1, e1, r1, rv, q⟩ := PostG.keep r0 w0 (PostG.mono q l0)
  · rw [← e1]
    refine fa s1 σ st1 r1 _ (bindG q fun y st2 s2 uy l2 r2 w2 q2 => ?_)
    refine fb s2 σ st2 r2 _ (bindG q2 fun z st3 s3 uz l3 r3 w3 q3 => ?_)
    split at q3
    · rename_i j
      obtain ⟨st4, e4, q4⟩ := PostG.get q3
      unfold IA.setItem at e4
      split at e4
      · rename_i y' i
        cases (show RVW X.K xc s3 σ (.val (.int i)) uz from w3).i
        obtain ⟨xs, ex, e4⟩ := Option.bind_eq_some_iff.mp e4
        obtain ⟨k, ek, e4⟩ := Option.bind_eq_some_iff.mp e4
        obtain ⟨p, zs, us, rfl, h1, h2, h3, h4⟩ := r3.put (w2.mono r2.hp.mt l3) e4
        rw [ex] at h3
        cases h3
        have rv3 := RV.mono r2.hp.mt l3 _ _ (RV.mono r1.hp.mt l2 _ _ rv)
        obtain ⟨l5, r5⟩ := h4 (us.set k u) (RVs.set k rv3 h2)
        refine ⟨p, us, i, k, rfl, rfl, h1, by rw [h2.len, ← ixN_eq]; exact ek, ?_⟩
        exact q4 (s3.wr p (.lst (us.set k u))) σ l5 r5 (Chg.refl _ _)
      · cases e4
    · exact q3.elim
end
end IS

set_option Elab.async false
set_option linter.all false
set_option maxRecDepth 100000
set_option maxHeartbeats 2000000
/-! ## The small machine: statements (own text) -/
namespace IS
open PySem PySem.Spec PyProof.Rows L2 BL
section
variable {Γ : IA.Env} {X : Cx} {xc : XC} {W : WX} {e a b : Expr} {es : List Expr} {ea eb : IA.E} {tg : IA.Tg} {tgs : IA.Tgs} {pos : Pos} {sts : List Stmt} {stm : Stmt} {c1 : IA.S} {cs cs2 : IA.Ss}
/-! ### blocks -/
theorem sss_nil : SSs Γ X xc W [] .nil := by
  refine ⟨_, pss_nil, fun s σ c r D h => ?_⟩
  simp only [IA.execs] at h
  exact h s σ (Le.refl s) r
theorem sss_cons (h1 : SS Γ X xc W stm c1) (h2 : SSs Γ X xc W sts cs) : SSs Γ X xc W (stm :: sts) (.cons c1 cs) := by
  obtain ⟨t, p, f⟩ := h1.ex
  obtain ⟨u, q, g⟩ := h2.ex
  refine ⟨_, pss_cons p q, fun s σ c r D h => ?_⟩
  simp only [IA.execs] at h
  refine f s σ c r _ ?_
  cases e : IA.exec Γ c1 c with
  | ok fl c' =>
    rw [e] at h
    cases fl with
    | nxt => exact fun s1 σ1 l1 r1 => g s1 σ1 c' r1 D (PostS.mono h l1)
    | brk => exact h
    | ret v => exact h
  | exc C v c' => rw [e] at h; exact h
  | stuck => rw [e] at h; exact h
/-! ### small statements -/
theorem PostS.toG {vs : List Nat} {s : Sit} {σ : L2.St} {D : Ends} {K : PySem.W.Frag} {r : IA.Res IA.St Unit} (h : PostS K xc s W D (r.bind fun _ s => .ok .nxt s)) : PostG K xc s σ W vs D.nx r := by
  cases r with
  | ok u c => exact fun s' σ' l r _ => h s' σ' l r
  | exc C v c => exact h
  | stuck => exact h
theorem ss_set {i : Nat} {x : Str} {pos' : Pos} (hN : X.N.Nodup) (hi : X.N[i]? = some x) (hx : Loc X.env.scope x) (he : SE Γ X xc W e ea) (hs : swapsWith e (some (.Name x pos')) pos.line X.env = pure false := by rfl) (hf : X.fn x = true ∨ X.env.scope.names.lookup x = some .local := by first | exact .inl rfl | exact .inr rfl | assumption) :
    SS Γ X xc W (.Assign [.Name x pos'] e pos) (.asg (.name i) ea) := by
  obtain ⟨t, p, f⟩ := he.ex
  refine ⟨_, ps_set hN hi hx p hs hf, fun s σ c r D h => ?_⟩
  simp only [IA.exec] at h
  exact f s σ c r _ (PostS.bind h fun x c1 s1 l1 r1 q1 u H0 e0 => name_read r1 e0 q1.toG)
theorem ss_asg {t : Expr} (he : SE Γ X xc W e ea) (hg : SG Γ X xc W t tg) (hs : swapsWithSole [t] e pos.line X.env = pure false := by rfl) (hw : swappedStores [t] e X.env = pure none := by rfl)
    (h1 : (assignEach [t] X.env).map (·.2) = [assign t X.env] := by rfl) : SS Γ X xc W (.Assign [t] e pos) (.asg tg ea) := by
  obtain ⟨te, p, f⟩ := he.ex
  obtain ⟨g, pg, fg⟩ := hg.ex
  refine ⟨_, ps_asg p pg hs hw h1, fun s σ c r D h => ?_⟩
  simp only [IA.exec] at h
  exact f s σ c r _ (PostS.bind h fun x c1 s1 l1 r1 q1 u H0 e0 => fg s1 σ c1 r1 x u H0 e0 _ q1.toG)
theorem ss_fld {f : String} {z : Str} {ks : List String} {pos' : Pos} (F : Flds X.K ks f) (he : SE Γ X xc W e ea) (ha : SE Γ X xc W a eb) (hz : z = Str.ofString f := by rfl) (hs : swapsWith e (some (.Attribute a z pos')) pos.line X.env = pure false := by rfl) :
    SS Γ X xc W (.Assign [.Attribute a z pos'] e pos) (.asg (.fld eb f ks) ea) := by
  subst hz
  obtain ⟨te, pe, fe⟩ := he.ex
  obtain ⟨ta, pa, fa⟩ := ha.ex
  refine ⟨_, ps_fld pa pe hs, fun s σ c r D h => ?_⟩
  simp only [IA.exec, IA.asg] at h
  refine fe s σ c r _ (bindS h fun x c1 s1 u l1 r1 w1 q1 => ?_)
  have q1' : PostG X.K xc s1 σ W [] D.nx (x.keep c1 fun v s => (IA.ev Γ eb s).bind fun o s => .get (IA.setFld o f ks v s) fun s => .ok () s) := PostS.toG q1
  obtain ⟨v, c2, s2, l2, e2, r2, rv, q2⟩ := PostG.keep r1 w1 q1'
  rw [← e2]
  refine fa s2 σ c2 r2 _ (bindG q2 fun y c3 s3 uy l3 r3 w3 q3 => ?_)
  obtain ⟨c4, e4, q4⟩ := PostG.get q3
  unfold IA.setFld at e4
  split at e4
  · rename_i n
    obtain ⟨p, rfl, h2⟩ := RV.refE (K := X.K) (xc := xc) (s := s3) w3
    split at e4
    · rename_i C fs q
      split at e4
      · rename_i hc
        cases e4
        obtain ⟨b, h3, h4, dx, us, h5, h6⟩ := r3.hp.cell n _ q
        rw [h2] at h3
        cases h3
        refine ⟨p, _, dx, us, rfl, h5, (F C hc.1).1, (F C hc.1).2, by rw [h6.len]; exact hc.2, ?_⟩
        have rv3 := RV.mono r2.hp.mt l3 _ _ rv
        have L := Le.wr (o := .ins (He.ga X.K (Str.ofString C)) dx (L2.putF (Str.ofString f) u us)) h4 h5 (fun z => z)
        obtain ⟨l5, r5⟩ := r3.wheap h2 h4 h5 (fun z => z) (c := .ins C (IA.putF f v fs)) ⟨dx, _, upd_same, RFs.put (RV.mono r3.hp.mt L _ _ rv3) (RFs.mono r3.hp.mt L _ _ h6)⟩
        exact q4 _ σ l5 r5 (Chg.refl _ _)
      · cases e4
    · cases e4
  · cases e4
theorem ss_ret (he : SE Γ X xc W e ea) : SS Γ X xc W (.Return (some e) pos) (.ret ea) := by
  obtain ⟨t, p, f⟩ := he.ex
  refine ⟨_, ps_ret p, fun s σ c r D h => ?_⟩
  simp only [IA.exec] at h
  refine f s σ c r _ (bindS h fun x c1 s1 u l1 r1 w1 q1 => ?_)
  obtain ⟨v, c2, s2, l2, e2, r2, rv, q2⟩ := PostS.keep r1 w1 q1
  rw [← e2]
  exact q2 s2 σ u (Le.refl s2) r2 rv
theorem ss_ex (he : SE Γ X xc W e ea) (hs : swapsWith e none pos.line X.env = pure false := by rfl) : SS Γ X xc W (.Expr e pos) (.ex ea) := by
  obtain ⟨t, p, f⟩ := he.ex
  refine ⟨_, ps_expr p hs, fun s σ c r D h => ?_⟩
  simp only [IA.exec] at h
  exact f s σ c r _ (bindS h fun x c1 s1 u l1 r1 w1 q1 => q1 s1 σ (Le.refl s1) r1)
theorem ss_if {c : Expr} {ec : IA.E} {A B : List Stmt} (hc : ST Γ X xc W c ec) (ha : SSs Γ X xc W A cs) (hb : SSs Γ X xc W B cs2) : SS Γ X xc W (.If c A B pos) (.ifs ec cs cs2) := by
  obtain ⟨t, p, f⟩ := hc.ex
  obtain ⟨ta, pa, fa⟩ := ha.ex
  obtain ⟨tb, pb, fb⟩ := hb.ex
  refine ⟨_, ps_if p pa pb, fun s σ c r D h => ?_⟩
  simp only [IA.exec] at h
  refine f s σ c r _ (PostS.bind h fun k c1 s1 l1 r1 q1 => ?_)
  cases k with
  | true => exact fa s1 σ c1 r1 D q1
  | false => exact fb s1 σ c1 r1 D q1
/-! ### loops -/
theorem ss_for {t it : Expr} {ei : IA.It} (hp : PassesOwn (model X.prog X.w) X.A X.env X.xe) (hc : X.calm = true) (hi : SI Γ X xc W t it ei) (hg : SG Γ X xc W t tg) (hb : SSs Γ X xc W sts cs)
    (hs : ∀ x, foldedSetIterable it X.env x = pure x := by intro _; rfl) : SS Γ X xc W (.For t it sts [] pos) (.for tg ei cs) := by
  obtain ⟨wi, pi, fi⟩ := hi.ex
  obtain ⟨g, pg, fg⟩ := hg.ex
  obtain ⟨tb, pb, fb⟩ := hb.ex
  refine ⟨_, ps_for hp hc pi pg pb hs, fun s σ c r D h => ?_⟩
  simp only [IA.exec] at h
  refine fi s σ c r _ (PostS.bind h fun src c1 s1 l1 r1 q1 J jok => ?_)
  -- one turn
  have turn : ∀ (s2 : Sit) σ2 c2 (x : IA.Val) (go : IA.St → IA.Res IA.St IA.Flow) (N : L2.St → Hp → Prop) u, Rel X.K xc s2 σ2 c2 → RV X.K xc s2 x u →
      PostS X.K xc s2 W D (((IA.asg Γ tg (.val x) c2).bind fun _ s => IA.execs Γ cs s).bind fun f s => match f with
        | .nxt => go s
        | .brk => .ok .nxt s
        | .ret v => .ok (.ret v) s) → (∀ s3 σ3 c3, Rel X.K xc s3 σ3 c3 → PostS X.K xc s3 W D (go c3) → Le s2 s3 → N σ3 s3.H) →
      g u σ2 s2.H fun σ3 H3 => tb { D with nx := N, ct := N, bk := D.nx } σ3 H3 := by
    intro s2 σ2 c2 x go N u r2 rv q2 hN
    refine fg s2 σ2 c2 r2 (.val x) u s2.H ⟨rfl, rv⟩ _ ?_
    cases e : IA.asg Γ tg (.val x) c2 with
    | ok z c3 =>
      rw [e] at q2
      intro s3 σ3 l3 r3 _
      refine fb s3 σ3 c3 r3 _ ?_
      have q2' : PostS X.K xc s2 W D ((IA.execs Γ cs c3).bind fun f s => match f with
        | .nxt => go s
        | .brk => .ok .nxt s
        | .ret v => .ok (.ret v) s) := q2
      cases e3 : IA.execs Γ cs c3 with
      | ok fl c4 =>
        rw [e3] at q2'
        cases fl with
        | nxt => exact fun s4 σ4 l4 r4 => hN s4 σ4 c4 r4 (PostS.mono q2' (l3.trans l4)) (l3.trans l4)
        | brk => exact fun s4 σ4 l4 r4 => q2' s4 σ4 (l3.trans l4) r4
        | ret v => exact fun s4 σ4 w l4 r4 => q2' s4 σ4 w (l3.trans l4) r4
      | exc C v c' => rw [e3] at q2'; exact fun s4 σ4 l4 => q2' s4 σ4 (l3.trans l4)
      | stuck => rw [e3] at q2'; exact q2'
    | exc C v c' => rw [e] at q2; exact q2
    | stuck => rw [e] at q2; exact q2
  cases src with
  | xs l =>
    refine ⟨fun i m σ' H' => ∃ s2 c2, s2.H = H' ∧ Le s1 s2 ∧ Rel X.K xc s2 σ' c2 ∧ i ≤ l.length ∧ m = l.length - i ∧ PostS X.K xc s2 W D (IA.forL (fun x s => (IA.asg Γ tg (.val x) s).bind fun _ s => IA.execs Γ cs s) (l.drop i) c2), ⟨_, s1, c1, rfl, Le.refl s1, r1, Nat.zero_le _, rfl, q1⟩, ?_⟩
    rintro i m σ2 H2 ⟨s2, c2, rfl, l2, r2, hi2, rfl, q2⟩
    obtain ⟨j1, j2⟩ := jok s2 σ2 c2 (l2.v r1.hp.mt) r2 i _ rfl
    by_cases hlt : i < l.length
    · rw [List.drop_eq_getElem_cons hlt] at q2
      simp only [IA.forL] at q2
      obtain ⟨g1, g2⟩ := j2 l[i] (List.getElem?_eq_getElem hlt)
      refine .inr ⟨g1, fun σ' H' => ∃ s3 c3, s3.H = H' ∧ Le s1 s3 ∧ Rel X.K xc s3 σ' c3 ∧ PostS X.K xc s3 W D (IA.forL (fun x s => (IA.asg Γ tg (.val x) s).bind fun _ s => IA.execs Γ cs s) (l.drop (i + 1)) c3), fun σ' H' ⟨s3, c3, e3, l3, r3, q3⟩ => ⟨l.length - (i + 1), by omega, s3, c3, e3, l3, r3, hlt, rfl, q3⟩, fun x H' y => ?_⟩
      obtain ⟨s3, e3, l3, r3, rv⟩ := g2 x H' y
      subst e3
      exact turn s3 σ2 c2 l[i] _ _ x r3 rv (PostS.mono q2 l3) fun s4 σ4 c4 r4 q4 l4 => ⟨s4, c4, rfl, (l2.trans l3).trans l4, r4, q4⟩
    · have e : l[i]? = none := List.getElem?_eq_none (by omega)
      rw [List.drop_eq_nil_of_le (by omega)] at q2
      exact .inl ⟨j1 e, q2 s2 σ2 (Le.refl s2) r2⟩
  | ref n en =>
    refine ⟨fun i m σ' H' => ∃ s2 c2, s2.H = H' ∧ Le s1 s2 ∧ Rel X.K xc s2 σ' c2 ∧ PostS X.K xc s2 W D (IA.forR n en (fun x s => (IA.asg Γ tg (.val x) s).bind fun _ s => IA.execs Γ cs s) m i c2), ⟨_, s1, c1, rfl, Le.refl s1, r1, q1⟩, ?_⟩
    rintro i m σ2 H2 ⟨s2, c2, rfl, l2, r2, q2⟩
    cases m with
    | zero => exact q2.elim
    | succ m =>
      simp only [IA.forR] at q2
      obtain ⟨o, eo, q2⟩ := PostS.get q2
      obtain ⟨j1, j2⟩ := jok s2 σ2 c2 (l2.v r1.hp.mt) r2 i o eo
      cases o with
      | none => exact .inl ⟨j1 rfl, q2 s2 σ2 (Le.refl s2) r2⟩
      | some v =>
        obtain ⟨g1, g2⟩ := j2 v rfl
        refine .inr ⟨g1, fun σ' H' => ∃ s3 c3, s3.H = H' ∧ Le s1 s3 ∧ Rel X.K xc s3 σ' c3 ∧ PostS X.K xc s3 W D (IA.forR n en (fun x s => (IA.asg Γ tg (.val x) s).bind fun _ s => IA.execs Γ cs s) m (i + 1) c3), fun σ' H' ⟨s3, c3, e3, l3, r3, q3⟩ => ⟨m, Nat.lt_succ_self m, s3, c3, e3, l3, r3, q3⟩, fun x H' y => ?_⟩
        obtain ⟨s3, e3, l3, r3, rv⟩ := g2 x H' y
        subst e3
        exact turn s3 σ2 c2 v _ _ x r3 rv (PostS.mono q2 l3) fun s4 σ4 c4 r4 q4 l4 => ⟨s4, c4, rfl, (l2.trans l3).trans l4, r4, q4⟩
end
end IS

set_option Elab.async false
set_option linter.all false
set_option maxRecDepth 100000
set_option maxHeartbeats 2000000
/-! ## The small machine: tests, op= (own text) -/
namespace IS
open PySem PySem.Spec PyProof.Rows L2 BL
section
variable {Γ : IA.Env} {X : Cx} {xc : XC} {W : WX} {e a b c : Expr} {ea eb ec : IA.E} {pos : Pos} {rest : List Expr}
/-- a test of and / or -/
structure SB (Γ : IA.Env) (X : Cx) (xc : XC) (W : WX) (e : Expr) (a : IA.E) : Prop where
  ex : ∃ t : TT, PW X e t ∧ ∀ s σ st, Rel X.K xc s σ st → ∀ Q, Post X.K xc s σ W (NT Q) (IA.tst Γ a st) → t σ s.H Q
theorem SB.st (h : SB Γ X xc W e ea) : ST Γ X xc W e ea := let ⟨t, p, f⟩ := h.ex; ⟨t, p.pt, f⟩
theorem sb_and1 (h : ST Γ X xc W a ea) : SB Γ X xc W (.BoolOp .And [a] pos) ea := let ⟨t, p, f⟩ := h.ex; ⟨t, pw_and1 p, f⟩
theorem sb_or1 (h : ST Γ X xc W a ea) : SB Γ X xc W (.BoolOp .Or [a] pos) ea := let ⟨t, p, f⟩ := h.ex; ⟨t, pw_or1 p, f⟩
theorem sb_and (ha : ST Γ X xc W a ea) (hb : SB Γ X xc W (.BoolOp .And (b :: rest) pos) eb) : SB Γ X xc W (.BoolOp .And (a :: b :: rest) pos) (.and ea eb) := by
  obtain ⟨ta, pa, fa⟩ := ha.ex
  obtain ⟨tb, pb, fb⟩ := hb.ex
  refine ⟨_, pw_and pa pb, fun s σ st r Q h => ?_⟩
  simp only [IA.tst] at h
  refine fa s σ st r _ (Post.bind h fun k st1 s1 l1 r1 q1 => ?_)
  cases k with
  | true =>
    show (if true = true then _ else _)
    rw [if_pos rfl]
    exact fb s1 σ st1 r1 Q q1
  | false =>
    show (if false = true then _ else _)
    rw [if_neg Bool.false_ne_true]
    exact Post.ok (N := NT Q) q1 r1
theorem sb_or (ha : ST Γ X xc W a ea) (hb : SB Γ X xc W (.BoolOp .Or (b :: rest) pos) eb) : SB Γ X xc W (.BoolOp .Or (a :: b :: rest) pos) (.or ea eb) := by
  obtain ⟨ta, pa, fa⟩ := ha.ex
  obtain ⟨tb, pb, fb⟩ := hb.ex
  refine ⟨_, pw_or pa pb, fun s σ st r Q h => ?_⟩
  simp only [IA.tst] at h
  refine fa s σ st r _ (Post.bind h fun k st1 s1 l1 r1 q1 => ?_)
  cases k with
  | true =>
    show (if true = true then _ else _)
    rw [if_pos rfl]
    exact Post.ok (N := NT Q) q1 r1
  | false =>
    show (if false = true then _ else _)
    rw [if_neg Bool.false_ne_true]
    exact fb s1 σ st1 r1 Q q1
theorem st_not (ha : ST Γ X xc W a ea) : ST Γ X xc W (.UnaryOp .Not a pos) (.not ea) := by
  obtain ⟨ta, pa, fa⟩ := ha.ex
  refine ⟨_, pt_not pa, fun s σ st r Q h => ?_⟩
  simp only [IA.tst] at h
  refine fa s σ st r _ (Post.bind h fun k st1 s1 l1 r1 q1 => ?_)
  exact Post.ok (N := NT Q) q1 r1
/-! x is None as a test -/
theorem st_isn {j pos'} (ha : SE Γ X xc W a ea) (hm : behindInMarks .Is (.Constant .none j pos') = false := by rfl) : ST Γ X xc W (.Compare a [.Is] [.Constant .none j pos'] pos) (.isn ea) := by
  obtain ⟨ta, pa, fa⟩ := ha.ex
  refine ⟨_, pt_cmpR BL.u_is pa pe_non hm, fun s σ st r Q h => ?_⟩
  simp only [IA.tst, IA.ev] at h
  have e : (((IA.ev Γ ea st).bind fun x s => IA.Res.get (IA.isNon x) fun k => IA.Res.ok (IA.EV.val (.bl k)) s).bind fun x s => IA.Res.get (IA.truth x s) fun k => IA.Res.ok k s) = (IA.ev Γ ea st).bind fun x s => IA.Res.get (IA.isNon x) fun k => IA.Res.ok k s := by
    cases IA.ev Γ ea st with
    | ok x s1 =>
      show (IA.Res.get (IA.isNon x) _).bind _ = IA.Res.get (IA.isNon x) _
      cases IA.isNon x <;> rfl
    | exc => rfl
    | stuck => rfl
  rw [e] at h
  show tOp _ ta _ σ s.H _
  refine fa s σ st r _ (bindE h fun x st1 s1 u l1 r1 w1 q1 => ?_)
  obtain ⟨k, ek, q1⟩ := Post.get q1
  exact ⟨rfl, k, by rw [w1.isn ek], Post.ok (N := NT Q) q1 r1⟩
theorem st_isnt {j pos'} (ha : SE Γ X xc W a ea) (hm : behindInMarks .IsNot (.Constant .none j pos') = false := by rfl) : ST Γ X xc W (.Compare a [.IsNot] [.Constant .none j pos'] pos) (.isnt ea) := by
  obtain ⟨ta, pa, fa⟩ := ha.ex
  refine ⟨_, pt_cmpR BL.u_isnt pa pe_non hm, fun s σ st r Q h => ?_⟩
  simp only [IA.tst, IA.ev] at h
  have e : (((IA.ev Γ ea st).bind fun x s => IA.Res.get (IA.isNon x) fun k => IA.Res.ok (IA.EV.val (.bl (!k))) s).bind fun x s => IA.Res.get (IA.truth x s) fun k => IA.Res.ok k s) = (IA.ev Γ ea st).bind fun x s => IA.Res.get (IA.isNon x) fun k => IA.Res.ok (!k) s := by
    cases IA.ev Γ ea st with
    | ok x s1 =>
      show (IA.Res.get (IA.isNon x) _).bind _ = IA.Res.get (IA.isNon x) _
      cases IA.isNon x <;> rfl
    | exc => rfl
    | stuck => rfl
  rw [e] at h
  show tOp _ ta _ σ s.H _
  refine fa s σ st r _ (bindE h fun x st1 s1 u l1 r1 w1 q1 => ?_)
  obtain ⟨k, ek, q1⟩ := Post.get q1
  exact ⟨rfl, !k, by rw [w1.isn ek], Post.ok (N := NT Q) q1 r1⟩
/-! a chained comparison as a test -/
theorem st_ch {op op' : CmpOp} {o o' : IA.Op2} {r r' : R2} (ho : OpR X (compareOp op) r) (ok : OpOk X.K xc W o r) (ho' : OpR X (compareOp op') r') (ok' : OpOk X.K xc W o' r') (ha : SE Γ X xc W a ea) (hb : SE Γ X xc W b eb) (hc : SE Γ X xc W c ec)
    (hm : lastMarks [op, op'] [b, c] = false := by with_unfolding_all rfl) (hk : isCmp o' = true := by rfl) : ST Γ X xc W (.Compare a [op, op'] [b, c] pos) (.ch o o' ea eb ec) := by
  obtain ⟨ta, pa, fa⟩ := ha.ex
  obtain ⟨tb, pb, fb⟩ := hb.ex
  obtain ⟨tc, pc, fc⟩ := hc.ex
  refine ⟨_, pt_chain ho ho' pa pb pc hm, fun s σ st rr Q h => ?_⟩
  simp only [IA.tst, IA.ev] at h
  rw [IA.Res.bind_assoc] at h
  show tChain r r' ta tb tc σ s.H _
  refine fa s σ st rr _ (bindE h fun x st1 s1 u l1 r1 w1 q1 => ?_)
  rw [IA.Res.bind_assoc] at q1
  refine fb s1 σ st1 r1 _ (bindE q1 fun y st2 s2 v l2 r2 w2 q2 => ?_)
  rw [IA.Res.bind_assoc] at q2
  refine ok s2 σ st2 x y u v _ r2 (w1.mono r1.hp.mt l2) w2 (bindE q2 fun z st3 s3 w l3 r3 w3 q3 => ?_)
  split at q3
  · cases w3.b
    refine ⟨true, rfl, ?_⟩
    rw [if_pos rfl]
    rw [IA.Res.bind_assoc] at q3
    refine fc s3 σ st3 r3 _ (bindE q3 fun z st4 s4 w' l4 r4 w4 q4 => ?_)
    refine ok' s4 σ st4 y z v w' _ r4 (w2.mono r2.hp.mt (l3.trans l4)) w4 ?_
    rcases op2_bl hk y z st4 with z | ⟨k, z⟩
    · rw [z] at q4; exact q4.elim
    · rw [z] at q4 ⊢
      intro s5 l5 r5 w H' e3
      obtain ⟨e4, e5⟩ := e3
      simp only [RV] at e5
      subst e5; subst e4
      exact ⟨k, rfl, (q4.mono l5) s5 (Le.refl s5) r5⟩
  · cases w3.b
    refine ⟨false, rfl, ?_⟩
    rw [if_neg Bool.false_ne_true]
    exact ⟨false, rfl, Post.ok (N := NT Q) q3 r3⟩
  · exact q3.elim
end
/-! ### op= -/
section
variable {X : Cx}
end
section
variable {Γ : IA.Env} {X : Cx} {xc : XC} {W : WX} {e a b c : Expr} {ea eb ec : IA.E} {pos pos' : Pos}
def AugOk (o : IA.Op2) (f : Int → Int → Int) : Prop := ∀ x y st, IA.aug2 o x y st = .stuck ∨ ∃ i j, x = .val (.int i) ∧ y = .val (.int j) ∧ IA.aug2 o x y st = .ok (.val (.int (f i j))) st
theorem PostS.aug {o : IA.Op2} {f : Int → Int → Int} (ok : AugOk o f) {K : PySem.W.Frag} {s : Sit} {σ : L2.St} {st : IA.St} {x y : IA.EV} {u v : V} {D : Ends} {g : IA.EV → IA.St → IA.Res IA.St IA.Flow} (w1 : RVW K xc s σ x u) (w2 : RVW K xc s σ y v) (h : PostS K xc s W D ((IA.aug2 o x y st).bind g)) :
    ∃ i j, u = .int i ∧ v = .int j ∧ PostS K xc s W D (g (.val (.int (f i j))) st) := by
  rcases ok x y st with z | ⟨i, j, rfl, rfl, z⟩
  · rw [z] at h; exact h.elim
  · rw [z] at h
    exact ⟨i, j, w1.i, w2.i, h⟩
end
end IS

set_option Elab.async false
set_option linter.all false
set_option maxRecDepth 100000
set_option maxHeartbeats 2000000
/-! ## The small machine: comprehensions (own text) -/
namespace IS
open PySem PySem.Spec PyProof.Rows L2 BL
/-! ### names forgotten -/
theorem iwipe_len (l : List (Option IA.SV)) : ∀ vs, (IA.wipe l vs).length = l.length
  | [] => rfl
  | i :: r => by simp only [IA.wipe, List.length_set, iwipe_len l r]
theorem iwipe_get {l : List (Option IA.SV)} {i : Nat} {x : IA.SV} : ∀ {vs : List Nat}, (IA.wipe l vs)[i]? = some (some x) → l[i]? = some (some x) ∧ i ∉ vs
  | [], h => ⟨h, by simp⟩
  | v :: vs, h => by
    simp only [IA.wipe] at h
    by_cases hi : v = i
    · subst hi
      by_cases hv : v < (IA.wipe l vs).length
      · rw [List.getElem?_set_self hv] at h; cases h
      · rw [List.getElem?_eq_none (by simpa using hv)] at h; cases h
    · rw [List.getElem?_set_ne hi] at h
      obtain ⟨h1, h2⟩ := iwipe_get h
      exact ⟨h1, by simp only [List.mem_cons, not_or]; exact ⟨fun e => hi e.symm, h2⟩⟩
section
variable {K : PySem.W.Frag} {xc : XC} {W : WX} {s s' : Sit} {σ σ' : L2.St} {st st' : IA.St}
theorem Rel.wipe {vs : List Nat} (r : Rel K xc s σ st) (ho : ∀ i, i ∉ vs → σ'[i]? = σ[i]?) (hl : σ'.length = σ.length) : Rel K xc s σ' ⟨IA.wipe st.σ vs, st.h⟩ where
  hp := r.hp
  exs := fun i C x e => by
    obtain ⟨e, n⟩ := iwipe_get e
    rw [ho i n]
    exact r.exs i C x e
  len := by rw [iwipe_len, hl]; exact r.len
  slot := fun i x e => by
    obtain ⟨e, n⟩ := iwipe_get e
    rw [ho i n]
    exact r.slot i x e
  own := fun i xs e => by
    obtain ⟨e, n⟩ := iwipe_get e
    rw [ho i n]
    exact r.own i xs e
  oinj := fun i j xs ys a e1 e2 e3 e4 => by
    obtain ⟨e1, n1⟩ := iwipe_get e1
    obtain ⟨e2, n2⟩ := iwipe_get e2
    rw [ho i n1] at e3
    rw [ho j n2] at e4
    exact r.oinj i j xs ys a e1 e2 e3 e4
  ohp := fun i xs a n e1 e3 => by
    obtain ⟨e1, n1⟩ := iwipe_get e1
    rw [ho i n1] at e3
    exact r.ohp i xs a n e1 e3
theorem wipe_agree {vs : List Nat} (h : L2.wipe σ' vs = L2.wipe σ vs) : (∀ i, i ∉ vs → σ'[i]? = σ[i]?) ∧ σ'.length = σ.length := by
  constructor
  · intro i n
    rw [← wipe_out n, h, wipe_out n]
  · rw [← wipe_length σ' vs, h, wipe_length]
theorem wipe_idem (vs : List Nat) : L2.wipe (L2.wipe σ vs) vs = L2.wipe σ vs := by
  refine List.ext_getElem? fun i => ?_
  by_cases hi : i ∈ vs
  · have key : ∀ (τ : L2.St) (us : List Nat), i ∈ us → (L2.wipe τ us)[i]? = if i < τ.length then some none else none := by
      intro τ us
      induction us with
      | nil => intro h; cases h
      | cons v us ih =>
        intro h
        simp only [L2.wipe]
        by_cases e : v = i
        · subst e
          by_cases hl : v < τ.length
          · rw [List.getElem?_set_self (by rw [wipe_length]; exact hl), if_pos hl]
          · rw [if_neg hl, List.getElem?_eq_none (by rw [List.length_set, wipe_length]; omega)]
        · rw [List.getElem?_set_ne e]
          exact ih ((List.mem_cons.mp h).resolve_left fun z => e z.symm)
    rw [key _ _ hi, key _ _ hi, wipe_length]
  · rw [wipe_out hi]
theorem wipe_chg {vs us : List Nat} (h : Chg us σ σ') (hs : ∀ i, i ∈ us → i ∈ vs) : L2.wipe σ' vs = L2.wipe σ vs := by
  have key : ∀ (τ : L2.St) (i : Nat) (us : List Nat), i ∈ us → (L2.wipe τ us)[i]? = if i < τ.length then some none else none := by
    intro τ i us
    induction us with
    | nil => intro h; cases h
    | cons v us ih =>
      intro h
      simp only [L2.wipe]
      by_cases e : v = i
      · subst e
        by_cases hl : v < τ.length
        · rw [List.getElem?_set_self (by rw [wipe_length]; exact hl), if_pos hl]
        · rw [if_neg hl, List.getElem?_eq_none (by rw [List.length_set, wipe_length]; omega)]
      · rw [List.getElem?_set_ne e]
        exact ih ((List.mem_cons.mp h).resolve_left fun z => e z.symm)
  refine List.ext_getElem? fun i => ?_
  by_cases hi : i ∈ vs
  · rw [key _ _ _ hi, key _ _ _ hi, h.1]
  · rw [wipe_out hi, wipe_out hi]
    exact h.2 i fun z => hi (hs i z)
/-! ### the list that a comprehension makes -/
def fgH (D : Addr) (H : Hp) : Hp := fun b => if b = D then none else H b
def Sit.fg (s : Sit) (D : Addr) : Sit := ⟨s.M, fun b => s.T b ∧ b ≠ D, s.R, fgH D s.H⟩
theorem fgH_at {D : Addr} {H : Hp} : fgH D H D = none := if_pos rfl
theorem fgH_ne {D b : Addr} {H : Hp} (h : b ≠ D) : fgH D H b = H b := if_neg h
theorem fgH_some {D b : Addr} {H : Hp} {o : HO} (h : fgH D H b = some o) : b ≠ D ∧ H b = some o := by
  unfold fgH at h
  split at h
  · cases h
  · exact ⟨by assumption, h⟩
structure InD (s : Sit) (D : Addr) (us : List V) : Prop where
  at' : s.H D = some (.lst us)
  t : s.T D
  m : ¬ s.M D
  r : ∀ n, s.R n ≠ some D
theorem InD.le {D : Addr} {us : List V} (d : InD s D us) (l : Le s s') : InD s' D us where
  at' := l.keep D _ d.m d.at'
  t := l.tkp D _ d.at' d.t d.m
  m := fun z => (l.mu D z).elim d.m fun q => by rw [d.at'] at q; cases q
  r := fun n z => (l.rnew n D z).elim (d.r n) fun q => by rw [d.at'] at q; cases q
theorem Le.fg {D : Addr} {us : List V} (l : Le s s') : Le (s.fg D) (s'.fg D) where
  keep := fun b o n e => by
    obtain ⟨h1, h2⟩ := fgH_some e
    exact (fgH_ne h1).trans (l.keep b o n h2)
  imm := fun b o i e => by
    obtain ⟨h1, h2⟩ := fgH_some e
    exact (fgH_ne h1).trans (l.imm b o i h2)
  trk := fun b o e => by
    obtain ⟨h1, h2⟩ := fgH_some e
    obtain ⟨o', e'⟩ := l.trk b o h2
    exact ⟨o', (fgH_ne h1).trans e'⟩
  mu := fun b h => (l.mu b h).imp id fun q => by
    by_cases e : b = D
    · subst e; exact fgH_at
    · exact (fgH_ne e).trans q
  thr := fun b h => (l.thr b h.1).imp (fun q => ⟨q, h.2⟩) fun q => (fgH_ne h.2).trans q
  tkp := fun b o e t n => by
    obtain ⟨h1, h2⟩ := fgH_some e
    exact ⟨l.tkp b o h2 t.1 n, h1⟩
  ref := l.ref
  rnew := fun n b h => (l.rnew n b h).imp id fun q => by
    by_cases e : b = D
    · subst e; exact fgH_at
    · exact (fgH_ne e).trans q
theorem InD.leV {D : Addr} {us : List V} (d : InD s D us) : LeV s (s.fg D) where
  keep := fun b o n e => (fgH_ne fun (z : b = D) => n (z ▸ d.t)).trans e
  imm := fun b o i e => (fgH_ne fun (z : b = D) => by
    rw [z, d.at'] at e
    cases e
    exact i).trans e
  thr := fun b h => .inl h.1
  ref := fun _ _ h => h
theorem leV_fg {D : Addr} : LeV (s.fg D) s where
  keep := fun b o n e => (fgH_some e).2
  imm := fun b o i e => (fgH_some e).2
  thr := fun b h => by
    by_cases e : b = D
    · subst e; exact .inr fgH_at
    · exact .inl ⟨h, e⟩
  ref := fun _ _ h => h
theorem LeV.trans {s s1 s2 : Sit} (a : LeV s s1) (b : LeV s1 s2) : LeV s s2 where
  keep := fun c o n e => by
    have e1 := a.keep c o n e
    exact b.keep c o (fun z => (a.thr c z).elim n fun q => by rw [q] at e; cases e) e1
  imm := fun c o i e => b.imm c o i (a.imm c o i e)
  thr := fun c h => by
    by_cases t : s.T c
    · exact .inl t
    · refine .inr ?_
      cases e : s.H c with
      | none => rfl
      | some o =>
        have e1 := a.keep c o t e
        rcases b.thr c h with h2 | h2
        · exact (a.thr c h2).elim (fun z => absurd z t) fun z => by rw [e] at z; cases z
        · rw [h2] at e1; cases e1
  ref := fun n x h => b.ref n x (a.ref n x h)
theorem Rel.fg {D : Addr} {us : List V} (d : InD s D us) (r : Rel K xc s σ st) : Rel K xc (s.fg D) σ st where
  hp := ⟨fun b m => ⟨r.hp.mt b m, fun z => d.m (z ▸ m)⟩, fun b t => by
      obtain ⟨o, e⟩ := r.hp.ex b t.1
      exact ⟨o, (fgH_ne t.2).trans e⟩, fun n a e => by
      obtain ⟨o, e2⟩ := r.hp.rex n a e
      exact ⟨o, (fgH_ne fun z => d.r n (by rw [← z]; exact e)).trans e2⟩, r.hp.inj, r.hp.nxt, fun n c e => by
      obtain ⟨a, h1, h2, h3⟩ := r.hp.cell n c e
      refine ⟨a, h1, h2, ?_⟩
      have na : (s.fg D).H a = s.H a := fgH_ne fun z => d.m (z ▸ h2)
      cases c with
      | lst xs => obtain ⟨us, h, r⟩ := h3; exact ⟨us, by rw [na]; exact h, RVs.monoV d.leV _ _ r⟩
      | ins C fs => obtain ⟨dx, us, h, r⟩ := h3; exact ⟨dx, us, by rw [na]; exact h, RFs.monoV d.leV _ _ r⟩
      | dct fs => obtain ⟨us, h, r, nd⟩ := h3; exact ⟨us, by rw [na]; exact h, RFs.monoV d.leV _ _ r, nd⟩⟩
  exs := fun i C x e => by
    obtain ⟨a, d', u, h1, h2, h3, h4, h5⟩ := r.exs i C x e
    exact ⟨a, d', u, h1, h2, fun z => h3 z.1, d.leV.keep d' _ h3 h4, RV.monoV d.leV _ _ h5⟩
  len := r.len
  slot := fun i x e => let ⟨u, h1, h2⟩ := r.slot i x e; ⟨u, h1, RV.monoV d.leV _ _ h2⟩
  own := fun i xs e => let ⟨a, us, h1, h2, h3, h4⟩ := r.own i xs e; ⟨a, us, h1, h2, (fgH_ne fun (z : a = D) => d.m (z ▸ h2)).trans h3, RVs.monoV d.leV _ _ h4⟩
  oinj := r.oinj
  ohp := r.ohp
/-- the list is written -/
theorem InD.wrV {D : Addr} {us us' : List V} (d : InD s D us) : LeV s (s.wr D (.lst us')) where
  keep := fun b o n e => (upd_ne fun (z : b = D) => n (z ▸ d.t)).trans e
  imm := fun b o i e => (upd_ne fun (z : b = D) => by
    rw [z, d.at'] at e
    cases e
    exact i).trans e
  thr := fun b h => .inl h
  ref := fun _ _ h => h
theorem InD.wr {D : Addr} {us us' : List V} (d : InD s D us) : InD (s.wr D (.lst us')) D us' := ⟨upd_same, d.t, d.m, d.r⟩
theorem Rel.wrD {D : Addr} {us us' : List V} (d : InD s D us) (r : Rel K xc s σ st) : Rel K xc (s.wr D (.lst us')) σ st where
  hp := ⟨r.hp.mt, fun b t => by
      obtain ⟨o, e⟩ := r.hp.ex b t
      by_cases z : b = D
      · exact ⟨_, by rw [z]; exact upd_same⟩
      · exact ⟨o, (upd_ne z).trans e⟩, fun n a e => by
      obtain ⟨o, e2⟩ := r.hp.rex n a e
      exact ⟨o, (upd_ne fun z => d.r n (by rw [← z]; exact e)).trans e2⟩, r.hp.inj, r.hp.nxt, fun n c e => by
      obtain ⟨a, h1, h2, h3⟩ := r.hp.cell n c e
      refine ⟨a, h1, h2, ?_⟩
      have na : (s.wr D (.lst us')).H a = s.H a := upd_ne fun z => d.m (z ▸ h2)
      cases c with
      | lst xs => obtain ⟨us, h, r⟩ := h3; exact ⟨us, by rw [na]; exact h, RVs.monoV d.wrV _ _ r⟩
      | ins C fs => obtain ⟨dx, us, h, r⟩ := h3; exact ⟨dx, us, by rw [na]; exact h, RFs.monoV d.wrV _ _ r⟩
      | dct fs => obtain ⟨us, h, r, nd⟩ := h3; exact ⟨us, by rw [na]; exact h, RFs.monoV d.wrV _ _ r, nd⟩⟩
  exs := fun i C x e => by
    obtain ⟨a, d', u, h1, h2, h3, h4, h5⟩ := r.exs i C x e
    exact ⟨a, d', u, h1, h2, h3, d.wrV.keep d' _ h3 h4, RV.monoV d.wrV _ _ h5⟩
  len := r.len
  slot := fun i x e => let ⟨u, h1, h2⟩ := r.slot i x e; ⟨u, h1, RV.monoV d.wrV _ _ h2⟩
  own := fun i xs e => let ⟨a, us, h1, h2, h3, h4⟩ := r.own i xs e; ⟨a, us, h1, h2, (upd_ne fun (z : a = D) => d.m (z ▸ h2)).trans h3, RVs.monoV d.wrV _ _ h4⟩
  oinj := r.oinj
  ohp := r.ohp
theorem fg_wr {D : Addr} {o : HO} : (s.wr D o).fg D = s.fg D := by
  unfold Sit.fg Sit.wr
  congr 1
  funext b
  unfold fgH
  split
  · rfl
  · exact upd_ne (by assumption)
theorem fg_upd {D : Addr} {us : List V} (d : InD s D us) : upd (s.fg D).H D (.lst us) = s.H := by
  funext b
  by_cases z : b = D
  · rw [z, upd_same, d.at']
  · rw [upd_ne z]
    exact fgH_ne z
/-- D begins -/
def Sit.beg (s : Sit) (D : Addr) : Sit := ⟨s.M, fun b => s.T b ∨ b = D, s.R, upd s.H D (.lst [])⟩
theorem Le.beg {D : Addr} (n : s.H D = none) : Le s (s.beg D) where
  keep := fun b u _ e => (upd_ne (ne_of_none e n)).trans e
  imm := fun b u _ e => (upd_ne (ne_of_none e n)).trans e
  trk := fun b u e => ⟨u, (upd_ne (ne_of_none e n)).trans e⟩
  mu := fun b h => .inl h
  thr := fun b h => h.imp id fun h => by rw [h]; exact n
  tkp := fun _ _ _ h _ => .inl h
  ref := fun _ _ h => h
  rnew := fun _ _ h => .inl h
theorem Rel.beg {D : Addr} (r : Rel K xc s σ st) (n : s.H D = none) : Rel K xc (s.beg D) σ st :=
  r.grow (Le.beg n) (fun b m => ⟨m, by
    obtain ⟨u, e⟩ := r.hp.ex b (r.hp.mt b m)
    exact upd_ne (ne_of_none e n)⟩) (fun b h => .inl (r.hp.mt b h)) (fun b t => by
      rcases t with t | t
      · obtain ⟨u, e⟩ := r.hp.ex b t; exact (Le.beg n).trk b u e
      · exact ⟨_, by rw [t]; exact upd_same⟩) rfl
theorem InD.beg {D : Addr} (r : Rel K xc s σ st) (n : s.H D = none) : InD (s.beg D) D [] where
  at' := upd_same
  t := .inr rfl
  m := fun z => by
    obtain ⟨o, e⟩ := r.hp.ex D (r.hp.mt D z)
    rw [n] at e; cases e
  r := fun m z => by
    obtain ⟨o, e⟩ := r.hp.rex m D z
    rw [n] at e; cases e
theorem fg_beg {D : Addr} (r : Rel K xc s σ st) (n : s.H D = none) : Le s ((s.beg D).fg D) where
  keep := fun b u _ e => (fgH_ne (ne_of_none e n)).trans ((upd_ne (ne_of_none e n)).trans e)
  imm := fun b u _ e => (fgH_ne (ne_of_none e n)).trans ((upd_ne (ne_of_none e n)).trans e)
  trk := fun b u e => ⟨u, (fgH_ne (ne_of_none e n)).trans ((upd_ne (ne_of_none e n)).trans e)⟩
  mu := fun b h => .inl h
  thr := fun b h => h.1.imp id fun z => absurd z h.2
  tkp := fun b o e h _ => ⟨.inl h, ne_of_none e n⟩
  ref := fun _ _ h => h
  rnew := fun _ _ h => .inl h
end
/-! ### canonical readings -/
def W0 : WX := fun _ _ _ _ => False
section
variable {Γ : IA.Env} {X : Cx} {xc : XC} {W : WX}
def cE (K : PySem.W.Frag) (Γ : IA.Env) (xc : XC) (a : IA.E) : TE := fun σ H Q => ∃ s st, s.H = H ∧ Rel K xc s σ st ∧ Post K xc s σ W0 (NE K xc σ Q) (IA.ev Γ a st)
def cT (K : PySem.W.Frag) (Γ : IA.Env) (xc : XC) (a : IA.E) : TT := fun σ H Q => ∃ s st, s.H = H ∧ Rel K xc s σ st ∧ Post K xc s σ W0 (NT Q) (IA.tst Γ a st)
def cG (K : PySem.W.Frag) (Γ : IA.Env) (xc : XC) (a : IA.Tg) : TG := fun u σ H N => ∃ s st x, Rel K xc s σ st ∧ RVE K xc s σ x u H ∧ PostG K xc s σ W0 a.slots N (IA.asg Γ a x st)
theorem SE.can {e : Expr} {a : IA.E} (h : SE Γ X xc W0 e a) : PE X e (cE X.K Γ xc a) := by
  obtain ⟨t, p, f⟩ := h.ex
  refine ⟨fun pins s σ H Q I q => ?_⟩
  obtain ⟨s1, st, rfl, r, z⟩ := q
  exact p.run pins s σ _ Q I (f s1 σ st r Q z)
theorem ST.can {e : Expr} {a : IA.E} (h : ST Γ X xc W0 e a) : PT X e (cT X.K Γ xc a) := by
  obtain ⟨t, p, f⟩ := h.ex
  refine ⟨fun pins s σ H Q I q => ?_⟩
  obtain ⟨s1, st, rfl, r, z⟩ := q
  exact p.run pins s σ _ Q I (f s1 σ st r Q z)
theorem SG.can {e : Expr} {a : IA.Tg} (h : SG Γ X xc W0 e a) : PG X e (cG X.K Γ xc a) := by
  obtain ⟨t, p, f⟩ := h.ex
  refine ⟨fun pins s σ H u v N I r q => ?_⟩
  obtain ⟨s1, st, x, r1, e, z⟩ := q
  exact p.run pins s σ H u v N I r (f s1 σ st r1 x u H e N z)
/-- a clause's tests -/
structure SPs (Γ : IA.Env) (X : Cx) (xc : XC) (es : List Expr) (a : IA.E) : Prop where
  can : PTs X es (cT X.K Γ xc a)
theorem sps_nil : SPs Γ X xc [] (.c (.bl true)) := by
  refine ⟨⟨fun pins s σ H Q I q => ?_⟩⟩
  obtain ⟨s1, st, rfl, r, z⟩ := q
  refine pts_nil.run pins s σ _ Q I ?_
  simp only [IA.tst, IA.ev] at z
  exact Post.ok (N := NT Q) z r
end
/-! ### the comprehension -/
section
variable {Γ : IA.Env} {X : Cx} {xc : XC} {W : WX}
/-- what is behind the loop -/
def Fin (K : PySem.W.Frag) (xc : XC) (s : Sit) (σ : L2.St) (vs : List Nat) (Q : VK) : IA.Res IA.St (List IA.Val) → Prop
  | .ok xs st => ∀ s', Le s s' → Rel K xc s' σ ⟨IA.wipe st.σ vs, st.h⟩ → ∀ u H', RVE K xc s' σ (.new xs) u H' → Q u H'
  | _ => False
theorem Fin.of {K : PySem.W.Frag} {s : Sit} {σ : L2.St} {vs : List Nat} {Q : VK} {r : IA.Res IA.St (List IA.Val)} (h : Post K xc s σ W (NE K xc σ Q) (r.bind fun xs s => .ok (.new xs) ⟨IA.wipe s.σ vs, s.h⟩).quiet) : Fin K xc s σ vs Q r := by
  cases r with
  | ok xs st => exact h
  | exc C v st => exact h.elim
  | stuck => exact h.elim
theorem Fin.bind {α : Type} {K : PySem.W.Frag} {s : Sit} {σ : L2.St} {vs : List Nat} {Q : VK} {r : IA.Res IA.St α} {f : α → IA.St → IA.Res IA.St (List IA.Val)} (h : Fin K xc s σ vs Q (r.bind f)) : ∃ a st, r = .ok a st ∧ Fin K xc s σ vs Q (f a st) := by
  cases r with
  | ok xs st => exact ⟨xs, st, rfl, h⟩
  | exc C v st => exact h.elim
  | stuck => exact h.elim
theorem Fin.get {α : Type} {K : PySem.W.Frag} {s : Sit} {σ : L2.St} {vs : List Nat} {Q : VK} {o : Option α} {f : α → IA.Res IA.St (List IA.Val)} (h : Fin K xc s σ vs Q (IA.Res.get o f)) : ∃ a, o = some a ∧ Fin K xc s σ vs Q (f a) := by
  cases o with
  | none => exact h.elim
  | some a => exact ⟨a, rfl, h⟩
theorem Fin.chk {K : PySem.W.Frag} {s : Sit} {σ : L2.St} {vs : List Nat} {Q : VK} {c : Prop} [Decidable c] {r : IA.Res IA.St (List IA.Val)} (h : Fin K xc s σ vs Q (IA.Res.chk c r)) : c ∧ Fin K xc s σ vs Q r := by
  unfold IA.Res.chk at h
  split at h
  · exact ⟨by assumption, h⟩
  · exact h.elim
def cBody (Γ : IA.Env) (t : IA.Tg) (cond elt : IA.E) (own : List Nat) (x : IA.Val) (s : IA.St) : IA.Res IA.St (Option IA.Val) :=
  (IA.asg Γ t (.val x) ⟨IA.wipe s.σ own, s.h⟩).bind fun _ s => (IA.tst Γ cond s).bind fun k s => if k then (IA.ev Γ elt s).bind fun y s => y.keep s fun v s => .ok (some v) s else .ok none s
/-- one turn -/
theorem lc_turn {tg : IA.Tg} {ec ee : IA.E} {vs : List Nat} {K : PySem.W.Frag} {s1 s2 : Sit} {σ σ2 : L2.St} {c2 : IA.St} {Q : VK} {D : Addr} {us : List V} {acc : List IA.Val} {v : IA.Val} {x : V} (hv : ∀ i, i ∈ tg.slots → i ∈ vs)
    (r2 : Rel K xc s2 σ2 c2) (ag : L2.wipe σ2 vs = L2.wipe σ vs) (d : InD s2 D us) (ra : RVs K xc s2 acc us) (rv : RV K xc s2 v x) {go : List IA.Val → IA.St → IA.Res IA.St (List IA.Val)} (l : Le s1 (s2.fg D))
    (h : Fin K xc s1 σ vs Q ((cBody Γ tg ec ee vs v c2).bind fun o s => match o with
      | none => go acc s
      | some v => IA.Res.chk (acc.length < IA.szL) (go (acc ++ [v]) s)))
    {Nx : Hp → Prop} (hN : ∀ s3 σ3 c3 us' acc', Rel K xc s3 σ3 c3 → L2.wipe σ3 vs = L2.wipe σ vs → InD s3 D us' → RVs K xc s3 acc' us' → Le s1 (s3.fg D) → Fin K xc s1 σ vs Q (go acc' c3) → Nx s3.H) :
    cG K Γ xc tg x (L2.wipe σ vs) s2.H fun σ3 H3 => L2.wipe σ3 vs = L2.wipe σ vs ∧ cT K Γ xc ec σ3 H3 fun b H4 =>
      if b = true then cE K Γ xc ee σ3 H4 fun y H5 => ∃ acc, H5 D = some (.lst acc) ∧ acc.length < sizeLine ∧ Nx (upd H5 D (.lst (acc ++ [y]))) else Nx H4 := by
  have ag2 := wipe_agree ag
  have r2' : Rel K xc s2 (L2.wipe σ vs) ⟨IA.wipe c2.σ vs, c2.h⟩ := r2.wipe (fun i n => by rw [wipe_out n, ag2.1 i n]) (by rw [wipe_length, ag2.2])
  refine ⟨s2, _, .val v, r2', ⟨rfl, rv⟩, ?_⟩
  obtain ⟨o, c5, eb, h⟩ := h.bind
  unfold cBody at eb
  cases e1 : IA.asg Γ tg (.val v) ⟨IA.wipe c2.σ vs, c2.h⟩ with
  | exc C w c => rw [e1] at eb; cases eb
  | stuck => rw [e1] at eb; cases eb
  | ok z c3 =>
    rw [e1] at eb
    intro s3 σ3 l3 r3 ch
    have ag3 : L2.wipe σ3 vs = L2.wipe σ vs := by rw [wipe_chg ch hv, wipe_idem]
    refine ⟨ag3, s3, c3, rfl, r3, ?_⟩
    have eb : (IA.tst Γ ec c3).bind (fun k s => if k then (IA.ev Γ ee s).bind fun y s => y.keep s fun v s => .ok (some v) s else .ok none s) = .ok o c5 := eb
    cases e2 : IA.tst Γ ec c3 with
    | exc C w c => rw [e2] at eb; cases eb
    | stuck => rw [e2] at eb; cases eb
    | ok k c4 =>
      rw [e2] at eb
      intro s4 l4 r4
      cases k with
      | false =>
        have eb : IA.Res.ok none c4 = .ok o c5 := eb
        cases eb
        show (if false = true then _ else _)
        rw [if_neg Bool.false_ne_true]
        exact hN s4 σ3 _ us acc r4 ag3 ((d.le l3).le l4) (RVs.mono r3.hp.mt l4 _ _ (RVs.mono r2.hp.mt l3 _ _ ra)) (l.trans ((Le.fg (D := D) (us := us) l3).trans (Le.fg (D := D) (us := us) l4))) h
      | true =>
        have eb : (IA.ev Γ ee c4).bind (fun y s => y.keep s fun v s => .ok (some v) s) = .ok o c5 := eb
        show (if true = true then _ else _)
        rw [if_pos rfl]
        refine ⟨s4, c4, rfl, r4, ?_⟩
        cases e3 : IA.ev Γ ee c4 with
        | exc C w c => rw [e3] at eb; cases eb
        | stuck => rw [e3] at eb; cases eb
        | ok y c6 =>
          rw [e3] at eb
          have eb : (y.keep c6 fun v s => IA.Res.ok (some v) s) = .ok o c5 := eb
          intro s5 l5 r5 u H' e
          obtain ⟨s6, l6, rfl, r6, w⟩ := e.weak r5
          rcases keep_ok (f := fun v s => IA.Res.ok (some v) s) r6 w with q | ⟨v', c7, s7, l7, eH, r7, rv7, q⟩
          · rw [q] at eb; cases eb
          · rw [q] at eb
            cases eb
            obtain ⟨hz, h⟩ := h.chk
            have d7 : InD s7 D us := ((((d.le l3).le l4).le l5).le l6).le l7
            have ra7 : RVs K xc s7 acc us := RVs.mono r6.hp.mt l7 _ _ (RVs.mono r5.hp.mt l6 _ _ (RVs.mono r4.hp.mt l5 _ _ (RVs.mono r3.hp.mt l4 _ _ (RVs.mono r2.hp.mt l3 _ _ ra))))
            have lf : Le s1 (s7.fg D) := l.trans ((Le.fg (D := D) (us := us) l3).trans ((Le.fg (D := D) (us := us) l4).trans ((Le.fg (D := D) (us := us) l5).trans ((Le.fg (D := D) (us := us) l6).trans (Le.fg (D := D) (us := us) l7)))))
            rw [← eH]
            refine ⟨us, d7.at', by rw [ra.len, ← szL_eq]; exact hz, ?_⟩
            have := hN (s7.wr D (.lst (us ++ [u]))) σ3 c5 (us ++ [u]) (acc ++ [v']) (r7.wrD d7) ag3 d7.wr (RVs.monoV d7.wrV _ _ (ra7.app (RVs.cons rv7 RVs.nil))) (by rw [fg_wr]; exact lf) h
            exact this

/-- the whole -/
theorem lc_all {tg : IA.Tg} {ec ee : IA.E} {vs : List Nat} {K : PySem.W.Frag} {s1 : Sit} {σ : L2.St} {c1 : IA.St} {Q : VK} {J : It} {src : IA.Src} (hv : ∀ i, i ∈ tg.slots → i ∈ vs)
    (r1 : Rel K xc s1 σ c1) (jok : JOk K xc J src s1) (h : Fin K xc s1 σ vs Q (match src with
      | .xs l => IA.compL (cBody Γ tg ec ee vs) l [] c1
      | .ref n en => IA.compR n en (cBody Γ tg ec ee vs) Γ.lim 0 [] c1)) :
    ∀ D, s1.H D = none → ∃ W' : Nat → Nat → Hp → Prop, (∃ m, W' 0 m (upd s1.H D (.lst []))) ∧ ∀ i m H, W' i m H →
      (J.stop i H ∧ Q (.ref D) H) ∨ (J.go i H ∧ ∃ Nx : Hp → Prop, (∀ H', Nx H' → ∃ m', m' < m ∧ W' (i + 1) m' H') ∧ ∀ x H', J.yld i H x H' → cG K Γ xc tg x (L2.wipe σ vs) H' fun σ2 H2 => L2.wipe σ2 vs = L2.wipe σ vs ∧ cT K Γ xc ec σ2 H2 fun b H3 =>
        if b = true then cE K Γ xc ee σ2 H3 fun y H4 => ∃ acc, H4 D = some (.lst acc) ∧ acc.length < sizeLine ∧ Nx (upd H4 D (.lst (acc ++ [y]))) else Nx H3) := by
  intro D n
  have rb := r1.beg n
  have db := InD.beg r1 n
  have fb := fg_beg r1 n
  -- the end
  have fin : ∀ (s2 : Sit) σ2 c2 us acc, Rel K xc s2 σ2 c2 → L2.wipe σ2 vs = L2.wipe σ vs → InD s2 D us → RVs K xc s2 acc us → Le s1 (s2.fg D) → Fin K xc s1 σ vs Q (.ok acc c2) → Q (.ref D) s2.H := by
    intro s2 σ2 c2 us acc r2 ag d ra l h
    have ag2 := wipe_agree ag
    refine h (s2.fg D) l ((r2.fg d).wipe (fun i n => (ag2.1 i n).symm) ag2.2.symm) _ _ ⟨D, us, rfl, fgH_at, (fg_upd d).symm, RVs.monoV d.leV _ _ ra⟩
  have jat : ∀ (s2 : Sit) σ2 c2, Rel K xc s2 σ2 c2 → Le s1 (s2.fg D) → LeV s1 s2 := fun s2 σ2 c2 r2 l => (l.v r1.hp.mt).trans leV_fg
  cases src with
  | xs l =>
    refine ⟨fun i m H => ∃ s2 σ2 c2 us acc, s2.H = H ∧ Rel K xc s2 σ2 c2 ∧ L2.wipe σ2 vs = L2.wipe σ vs ∧ InD s2 D us ∧ RVs K xc s2 acc us ∧ Le s1 (s2.fg D) ∧ i ≤ l.length ∧ m = l.length - i ∧ Fin K xc s1 σ vs Q (IA.compL (cBody Γ tg ec ee vs) (l.drop i) acc c2),
      ⟨_, s1.beg D, σ, c1, [], [], rfl, rb, rfl, db, RVs.nil, fb, Nat.zero_le _, rfl, h⟩, ?_⟩
    rintro i m H ⟨s2, σ2, c2, us, acc, rfl, r2, ag, d, ra, l2, hi, rfl, q2⟩
    obtain ⟨j1, j2⟩ := jok s2 σ2 c2 (jat s2 σ2 c2 r2 l2) r2 i _ rfl
    by_cases hlt : i < l.length
    · rw [List.drop_eq_getElem_cons hlt] at q2
      simp only [IA.compL] at q2
      obtain ⟨g1, g2⟩ := j2 l[i] (List.getElem?_eq_getElem hlt)
      refine .inr ⟨g1, fun H => ∃ s3 σ3 c3 us' acc', s3.H = H ∧ Rel K xc s3 σ3 c3 ∧ L2.wipe σ3 vs = L2.wipe σ vs ∧ InD s3 D us' ∧ RVs K xc s3 acc' us' ∧ Le s1 (s3.fg D) ∧ Fin K xc s1 σ vs Q (IA.compL (cBody Γ tg ec ee vs) (l.drop (i + 1)) acc' c3),
        fun H' ⟨s3, σ3, c3, us', acc', e3, r3, ag3, d3, ra3, l3, q3⟩ => ⟨l.length - (i + 1), by omega, s3, σ3, c3, us', acc', e3, r3, ag3, d3, ra3, l3, hlt, rfl, q3⟩, fun x H' y => ?_⟩
      obtain ⟨s3, e3, l3, r3, rv⟩ := g2 x H' y
      subst e3
      refine lc_turn hv r3 ag (d.le l3) (RVs.mono r2.hp.mt l3 _ _ ra) rv (go := IA.compL (cBody Γ tg ec ee vs) (l.drop (i + 1))) (l2.trans (Le.fg (D := D) (us := us) l3)) q2 fun s4 σ4 c4 us' acc' r4 ag4 d4 ra4 l4 q4 => ⟨s4, σ4, c4, us', acc', rfl, r4, ag4, d4, ra4, l4, q4⟩
    · have e : l[i]? = none := List.getElem?_eq_none (by omega)
      rw [List.drop_eq_nil_of_le (by omega)] at q2
      exact .inl ⟨j1 e, fin s2 σ2 c2 us acc r2 ag d ra l2 q2⟩
  | ref n en =>
    refine ⟨fun i m H => ∃ s2 σ2 c2 us acc, s2.H = H ∧ Rel K xc s2 σ2 c2 ∧ L2.wipe σ2 vs = L2.wipe σ vs ∧ InD s2 D us ∧ RVs K xc s2 acc us ∧ Le s1 (s2.fg D) ∧ Fin K xc s1 σ vs Q (IA.compR n en (cBody Γ tg ec ee vs) m i acc c2),
      ⟨_, s1.beg D, σ, c1, [], [], rfl, rb, rfl, db, RVs.nil, fb, h⟩, ?_⟩
    rintro i m H ⟨s2, σ2, c2, us, acc, rfl, r2, ag, d, ra, l2, q2⟩
    cases m with
    | zero => exact q2.elim
    | succ m =>
      simp only [IA.compR] at q2
      obtain ⟨o, eo, q2⟩ := q2.get
      obtain ⟨j1, j2⟩ := jok s2 σ2 c2 (jat s2 σ2 c2 r2 l2) r2 i o eo
      cases o with
      | none => exact .inl ⟨j1 rfl, fin s2 σ2 c2 us acc r2 ag d ra l2 q2⟩
      | some v =>
        obtain ⟨g1, g2⟩ := j2 v rfl
        refine .inr ⟨g1, fun H => ∃ s3 σ3 c3 us' acc', s3.H = H ∧ Rel K xc s3 σ3 c3 ∧ L2.wipe σ3 vs = L2.wipe σ vs ∧ InD s3 D us' ∧ RVs K xc s3 acc' us' ∧ Le s1 (s3.fg D) ∧ Fin K xc s1 σ vs Q (IA.compR n en (cBody Γ tg ec ee vs) m (i + 1) acc' c3),
          fun H' ⟨s3, σ3, c3, us', acc', e3, r3, ag3, d3, ra3, l3, q3⟩ => ⟨m, Nat.lt_succ_self m, s3, σ3, c3, us', acc', e3, r3, ag3, d3, ra3, l3, q3⟩, fun x H' y => ?_⟩
        obtain ⟨s3, e3, l3, r3, rv⟩ := g2 x H' y
        subst e3
        exact lc_turn hv r3 ag (d.le l3) (RVs.mono r2.hp.mt l3 _ _ ra) rv (go := fun acc s => IA.compR n en (cBody Γ tg ec ee vs) m (i + 1) acc s) (l2.trans (Le.fg (D := D) (us := us) l3)) q2 fun s4 σ4 c4 us' acc' r4 ag4 d4 ra4 l4 q4 => ⟨s4, σ4, c4, us', acc', rfl, r4, ag4, d4, ra4, l4, q4⟩
variable {elt tg iter : Expr} {ifs : List Expr} {scope : Scope} {own : List (Str × Nat)} {vs : List Nat} {pos spos : Pos} {at' : IA.Tg} {ai : IA.It} {ac ae : IA.E}
theorem lc_sound {wi : TI} (fi : ∀ s σ st, Rel X.K xc s σ st → ∀ R, Post X.K xc s σ W (NI X.K xc R) (IA.evi Γ ai st) → wi σ s.H R) (hv : ∀ i, i ∈ at'.slots → i ∈ vs) {s : Sit} {σ : L2.St} {st : IA.St} (r : Rel X.K xc s σ st) {Q : VK}
    (h : Post X.K xc s σ W (NE X.K xc σ Q) (IA.ev Γ (.comp ai at' ac ae vs) st)) : tLc wi (cG X.K Γ xc at') (cT X.K Γ xc ac) (cE X.K Γ xc ae) vs σ s.H Q := by
  simp only [IA.ev] at h
  refine fi s σ st r _ (Post.bind h fun src c1 s1 l1 r1 q1 J jok => ?_)
  have q1' := Fin.of q1
  refine lc_all hv r1 jok (by cases src <;> exact q1')
theorem se_lc (hc : X.calm = true) (hN : X.N.Nodup) (hi : SI Γ X xc W tg iter ai) (ok : BlkOk X.N X.env.scope scope own)
    (hg : ∀ (s : Shared) (H : Hp) (C : Addr) (cl : List (Str × Addr)) (fp : List Addr), SG Γ (X.blk s H scope (compEnvC scope cl C X.env) fp) xc W0 tg at') (ht : ∀ (s : Shared) (H : Hp) (C : Addr) (cl : List (Str × Addr)) (fp : List Addr), SPs Γ (X.blk s H scope (compEnvC scope cl C X.env) fp) xc ifs ac)
    (he : ∀ (s : Shared) (H : Hp) (C : Addr) (cl : List (Str × Addr)) (fp : List Addr), SE Γ (X.blk s H scope (compEnvC scope cl C X.env) fp) xc W0 elt ae) (hv : (∀ i, i ∈ at'.slots → i ∈ vs) := by decide) (hvs : own.map (·.2) = vs := by rfl) (hs : ∀ x, foldedSetIterable iter X.env x = pure x := by intro _; rfl) :
    SE Γ X xc W (.ListComp elt [⟨tg, iter, ifs, 0⟩] scope pos) (.comp ai at' ac ae vs) := by
  obtain ⟨wi, pi, fi⟩ := hi.ex
  subst hvs
  exact ⟨_, pe_lc (g := cG X.K Γ xc at') (tt := cT X.K Γ xc ac) (te := cE X.K Γ xc ae) hc hN pi ok (fun s H C cl fp => (hg s H C cl fp).can) (fun s H C cl fp => (ht s H C cl fp).can) (fun s H C cl fp => (he s H C cl fp).can) hs, fun s σ st r Q h => lc_sound fi hv r h⟩
theorem ss_setLc {i : Nat} {y : Str} {py : Pos} (hc : X.calm = true) (hN : X.N.Nodup) (hy : X.N[i]? = some y) (hyl : X.env.scope.names.lookup y = some .local)
    (hsw : swapsWith (.ListComp elt [⟨tg, iter, ifs, 0⟩] scope pos) (some (.Name y py)) spos.line X.env = pure true) (hi : SI Γ X xc W tg iter ai) (ok : BlkOk X.N X.env.scope scope own)
    (hg : ∀ (s : Shared) (H : Hp) (C : Addr) (cl : List (Str × Addr)) (fp : List Addr), SG Γ (X.blk s H scope (compEnvC scope cl C X.env) fp) xc W0 tg at') (ht : ∀ (s : Shared) (H : Hp) (C : Addr) (cl : List (Str × Addr)) (fp : List Addr), SPs Γ (X.blk s H scope (compEnvC scope cl C X.env) fp) xc ifs ac)
    (he : ∀ (s : Shared) (H : Hp) (C : Addr) (cl : List (Str × Addr)) (fp : List Addr), SE Γ (X.blk s H scope (compEnvC scope cl C X.env) fp) xc W0 elt ae) (hv : (∀ i, i ∈ at'.slots → i ∈ vs) := by decide) (hvs : own.map (·.2) = vs := by rfl) (hs : ∀ x, foldedSetIterable iter X.env x = pure x := by intro _; rfl) :
    SS Γ X xc W (.Assign [.Name y py] (.ListComp elt [⟨tg, iter, ifs, 0⟩] scope pos) spos) (.asg (.name i) (.comp ai at' ac ae vs)) := by
  obtain ⟨wi, pi, fi⟩ := hi.ex
  subst hvs
  refine ⟨_, ps_setLc (g := cG X.K Γ xc at') (tt := cT X.K Γ xc ac) (te := cE X.K Γ xc ae) hc hN hy hyl hsw pi ok (fun s H C cl fp => (hg s H C cl fp).can) (fun s H C cl fp => (ht s H C cl fp).can) (fun s H C cl fp => (he s H C cl fp).can) hs, fun s σ c r D h => ?_⟩
  rw [show IA.exec Γ (.asg (.name i) (.comp ai at' ac ae (own.map (·.2)))) c = (IA.ev Γ (.comp ai at' ac ae (own.map (·.2))) c).bind fun x s => (IA.asg Γ (.name i) x s).bind fun _ s => .ok .nxt s by simp only [IA.exec]] at h
  exact lc_sound fi hv r (PostS.bind h fun x c1 s1 l1 r1 q1 u H0 e0 => name_read r1 e0 q1.toG)
end
end IS

set_option Elab.async false
set_option linter.all false
set_option maxRecDepth 100000
set_option maxHeartbeats 2000000
/-! ## The small machine: names of the module, defs, the law (own text) -/
namespace IS
open PySem PySem.Spec PyProof.Rows L2 BL
section
variable {Γ : IA.Env} {X : Cx} {xc : XC} {W : WX} {x : Str} {pos : Pos}
theorem se_gI {n : Int} (hg : Gl X x) (hm : ∃ t, X.mg x = some (.int n t)) (hd : (x == ("__debug__" : Str)) = false := by decide) : SE Γ X xc W (.Name x pos) (.c (.int n)) := by
  obtain ⟨t, hm⟩ := hm
  exact se_pure (pe_glob (v := .int n) hg hm ⟨_, rfl⟩ hd) (fun _ _ _ h => h) fun s => by simp only [RV]
end
/-! ### a def -/
section
variable {P : Program} {w : World} {K : PySem.W.Frag} {mg : Str → Option Value} {base : Heap} {k : Nat} {f : Addr} {ps : List Str}
theorem start_rel {s : Sit} {h : IA.AHeap} {as : List IA.Val} {vs : List V} {N : List Str} {d : IA.FDef} (r : HRel K none s h) (rs : RVs K none s as vs) (hl : as.length = d.np) (h2 : d.n = N.length) (h3 : d.np ≤ d.n) : Rel K none s (L2.start N vs) ⟨IA.start d as, h⟩ := by
  have e : vs.length = as.length := rs.len
  have g : ∀ (i : Nat) x, (IA.start d as)[i]? = some (some x) → ∃ v, x = .v v ∧ as[i]? = some v := fun i x q => by
    unfold IA.start at q
    by_cases hi : i < as.length
    · rw [List.getElem?_append_left (by rw [List.length_map]; exact hi), List.getElem?_map] at q
      obtain ⟨v, ev, q⟩ := Option.map_eq_some_iff.mp q
      cases q
      exact ⟨v, rfl, ev⟩
    · rw [List.getElem?_append_right (by rw [List.length_map]; omega)] at q
      rw [List.getElem?_replicate] at q
      split at q <;> cases q
  refine ⟨r, fun i C x q => ?_, ?_, fun i x q => ?_, fun i xs q => ?_, fun i j xs ys a q => ?_, fun i xs a n q => ?_⟩
  · obtain ⟨v, q, _⟩ := g i _ q; cases q
  · unfold IA.start L2.start
    simp only [List.length_append, List.length_map, List.length_replicate]
    omega
  · obtain ⟨v, q, q2⟩ := g i _ q
    cases q
    obtain ⟨u, e2, rv⟩ := rs.get q2
    refine ⟨u, ?_, rv⟩
    unfold L2.start
    have hi : i < vs.length := (List.getElem?_eq_some_iff.mp e2).1
    rw [List.getElem?_append_left (by rw [List.length_map]; exact hi), List.getElem?_map, e2]
    rfl
  · obtain ⟨v, q, _⟩ := g i _ q; cases q
  · obtain ⟨v, q, _⟩ := g i _ q; cases q
  · obtain ⟨v, q, _⟩ := g i _ q; cases q
theorem run_succ {Pr : IA.Prog} {lim j : Nat} {name : String} {d : IA.FDef} (hP : Pr name = some d) (as : List IA.Val) (h : IA.AHeap) :
    IA.run Pr lim (j + 1) name as h = if as.length = d.np then IA.outOf (IA.execs ⟨IA.run Pr lim j, lim⟩ d.body ⟨IA.start d as, h⟩) else .stuck := by
  simp only [IA.run, hP]
theorem spF_len {Pr : IA.Prog} {lim j : Nat} {name : String} {d : IA.FDef} (hP : Pr name = some d) {vs : List V} {H : Hp} {Q : VK} {E : XK} (h : SpF K (IA.run Pr lim (j + 1) name) vs H Q E) : vs.length = d.np := by
  obtain ⟨s, h, as, rfl, hr, rs, q⟩ := h
  rw [run_succ hP] at q
  rw [rs.len]
  by_cases e : as.length = d.np
  · exact e
  · rw [if_neg e] at q
    exact q.elim
/-- what a def's body says, at its start -/
theorem spF_start {Pr : IA.Prog} {lim j : Nat} {name : String} {d : IA.FDef} {N : List Str} (hP : Pr name = some d) (h2 : d.n = N.length) (h3 : d.np ≤ d.n) {vs : List V} {H : Hp} {Q : VK} {E : XK} (h : SpF K (IA.run Pr lim (j + 1) name) vs H Q E) {t : TS}
    (f : ∀ s σ c, Rel K none s σ c → ∀ D, PostS K none s (fun cls d _ H => E cls d H) D (IA.execs ⟨IA.run Pr lim j, lim⟩ d.body c) → t D σ s.H) : t ⟨fun _ H' => Q .non H', Q, fun _ _ => False, fun _ _ => False⟩ (L2.start N vs) H := by
  obtain ⟨s, h, as, rfl, hr, rs, q⟩ := h
  rw [run_succ hP] at q
  by_cases e : as.length = d.np
  · rw [if_pos e] at q
    refine f s _ _ (start_rel hr rs e h2 h3) _ ?_
    cases ex : IA.execs ⟨IA.run Pr lim j, lim⟩ d.body ⟨IA.start d as, h⟩ with
    | ok fl c =>
      rw [ex] at q
      cases fl with
      | nxt => exact fun s' σ' l r' => q s' .non l r'.hp (by simp only [RV])
      | brk => exact q.elim
      | ret v => exact fun s' σ' u l r' rv => q s' u l r'.hp rv
    | exc C v c =>
      rw [ex] at q
      exact fun s' σ' l s'' d u l2 r2 nT hd rv => q s'' d u (l.trans l2) r2.hp nT hd rv
    | stuck => rw [ex] at q; exact q
  · rw [if_neg e] at q
    exact q.elim
theorem Cal.ia {xn qual : Str} {params : Arguments} {body : List Stmt} {scope : Scope} {fd : FuncData} {N : List Str} {Pr : IA.Prog} {lim j : Nat} {name : String} {d : IA.FDef} (F : FunD K xn qual params body scope [] [] f fd) (b : Binds K fd ps []) (S : FnScope N ps scope)
    (hP : Pr name = some d) (h1 : d.np = ps.length) (h2 : d.n = N.length) (h3 : d.np ≤ d.n)
    (hb : ∀ (cdv : Value) (A : Around) (outer : List Env) (s : Shared) (H : Hp) (E : XK), Room k (A.deeper (envOfC qual scope s.heap.objs.size f cdv)) →
      Takes (cxOf (L2.CX P w) P w K mg base N qual scope f cdv A outer s H E) (fun cls d _ H => E cls d H) →
      PassesOwn (model (cxOf (L2.CX P w) P w K mg base N qual scope f cdv A outer s H E).prog (cxOf (L2.CX P w) P w K mg base N qual scope f cdv A outer s H E).w) (cxOf (L2.CX P w) P w K mg base N qual scope f cdv A outer s H E).A (cxOf (L2.CX P w) P w K mg base N qual scope f cdv A outer s H E).env (cxOf (L2.CX P w) P w K mg base N qual scope f cdv A outer s H E).xe →
      SSs ⟨IA.run Pr lim j, lim⟩ (cxOf (L2.CX P w) P w K mg base N qual scope f cdv A outer s H E) none (fun cls d _ H => E cls d H) body d.body) :
    Cal P w K mg base (L2.CX P w) (k + 1) f ps (SpF K (IA.run Pr lim (j + 1) name)) := by
  refine BL.Cal.ofX F b S (fun vs H Q E h => (spF_len hP h).trans h1) fun cdv A outer s H vs Q E hr h => ?_
  obtain ⟨t, p, f⟩ := (hb cdv A outer s H E hr (takes_of rfl rfl rfl rfl) (passes_of rfl)).ex
  exact ⟨t, p, spF_start hP h2 h3 h f⟩
theorem Fn.ia {xn qual : Str} {params : Arguments} {body : List Stmt} {scope : Scope} {fd : FuncData} {N : List Str} {Pr : IA.Prog} {lim j : Nat} {name : String} {d : IA.FDef} (F : FunD K xn qual params body scope [] [] f fd) (S : FnScope N ps scope)
    (hP : Pr name = some d) (h1 : d.np = ps.length) (h2 : d.n = N.length) (h3 : d.np ≤ d.n)
    (hb : ∀ (cdv : Value) (A : Around) (outer : List Env) (s : Shared) (H : Hp) (E : XK), Room k (A.deeper (envOfC qual scope s.heap.objs.size f cdv)) →
      Takes (cxOf (L2.CX P w) P w K mg base N qual scope f cdv A outer s H E) (fun cls d _ H => E cls d H) →
      PassesOwn (model (cxOf (L2.CX P w) P w K mg base N qual scope f cdv A outer s H E).prog (cxOf (L2.CX P w) P w K mg base N qual scope f cdv A outer s H E).w) (cxOf (L2.CX P w) P w K mg base N qual scope f cdv A outer s H E).A (cxOf (L2.CX P w) P w K mg base N qual scope f cdv A outer s H E).env (cxOf (L2.CX P w) P w K mg base N qual scope f cdv A outer s H E).xe →
      SSs ⟨IA.run Pr lim j, lim⟩ (cxOf (L2.CX P w) P w K mg base N qual scope f cdv A outer s H E) none (fun cls d _ H => E cls d H) body d.body) :
    FnOk P w K mg base (L2.CX P w) (k + 1) f fd ps (SpF K (IA.run Pr lim (j + 1) name)) := by
  refine F.ok S (fun vs H Q E h => (spF_len hP h).trans h1) fun cdv A outer s H vs Q E hr h => ?_
  obtain ⟨t, p, f⟩ := (hb cdv A outer s H E hr (takes_of rfl rfl rfl rfl) (passes_of rfl)).ex
  exact ⟨t, p, spF_start hP h2 h3 h f⟩
theorem Cal.ia0 {xn qual : Str} {params : Arguments} {body : List Stmt} {scope : Scope} {fd : FuncData} {Pr : IA.Prog} {lim : Nat} {name : String} (F : FunD K xn qual params body scope [] [] f fd) (b : Binds K fd ps []) : Cal P w K mg base (L2.CX P w) 0 f ps (SpF K (IA.run Pr lim 0 name)) :=
  BL.Cal.zero b F.kp fun vs H Q E ⟨s, h, as, _, _, _, q⟩ => q
end
/-! ### the law's end -/
def hp0 : IA.AHeap := ⟨fun _ => none, 0⟩
theorem rvs_ints {K : PySem.W.Frag} {xc : XC} {s : Sit} : ∀ ns : List Int, RVs K xc s (ns.map IA.Val.int) (ns.map V.int)
  | [] => RVs.nil
  | n :: ns => RVs.cons (by simp only [RV]) (rvs_ints ns)
theorem spF_law {K : PySem.W.Frag} {r : List IA.Val → IA.AHeap → IA.Res IA.AHeap IA.Val} {H : Hp} {a : Addr} {ns : List Int} {E : XK} (hs : BL.SqF K H a (ns.map V.int)) (h : ∃ h', r [.scr (ns.map .int)] hp0 = .ok (.bl true) h') : SpF K r [.ref a] H (fun v _ => v = .bl true) E := by
  obtain ⟨h', e⟩ := h
  have rv : RV K none ⟨fun _ => False, fun _ => False, fun _ => none, H⟩ (.scr (ns.map .int)) (.ref a) := by
    simp only [RV]
    exact ⟨a, _, rfl, hs, rvs_ints ns⟩
  refine ⟨⟨fun _ => False, fun _ => False, fun _ => none, H⟩, hp0, [.scr (ns.map .int)], rfl, ⟨fun _ z => z, fun _ z => z.elim, fun _ _ z => (nomatch z), fun _ _ _ z => (nomatch z), fun _ _ => rfl, fun _ _ z => (nomatch z)⟩, RVs.cons rv RVs.nil, ?_⟩
  rw [e]
  intro s' u _ _ rv
  simpa only [RV] using rv
end IS

set_option Elab.async false
set_option linter.all false
set_option maxRecDepth 100000
set_option maxHeartbeats 2000000
/-! ## The small machine: isinstance, f-strings, new lists of the heap, raise (own text) -/
namespace IS
open PySem PySem.Spec PyProof.Rows L2 BL
/-! ### isinstance -/
def tyS : IA.Ty → Option String
  | .int => some "int" | .bool => some "bool" | .str => some "str" | .list => some "list" | .tuple => some "tuple" | .cls _ _ => none
theorem tyx_tup {K : PySem.W.Frag} {H : Hp} {a : Addr} {us : List V} (h : SqT K H a us) : TyX K H (.ref a) (.type "tuple") := by
  rcases h with (h | ⟨o, h⟩) | ⟨o, its, n, h1, h2, _⟩
  · exact .base (.tup h)
  · exact .fTuple h
  · exact .kTuple h1 h2
theorem tyx_lst {K : PySem.W.Frag} {H : Hp} {a : Addr} {us : List V} (h : SqL K H a us) : TyX K H (.ref a) (.type "list") := by
  rcases h with (h | ⟨o, h⟩) | ⟨o, its, n, h1, h2, _⟩
  · exact .base (.lst h)
  · exact .base (.frz h)
  · exact .kList h1 h2
section
variable {K : PySem.W.Frag} {xc : XC} {s : Sit} {σ : L2.St} {st : IA.St}
theorem isi_read {x : IA.EV} {u : V} {v : IA.Val} {ty : IA.Ty} {n : String} {b : Bool} (r : Rel K xc s σ st) (w : RVW K xc s σ x u) (ex : x.peek st = some v) (hn : tyS ty = some n) (e : IA.ofT v ty = some b) :
    ∃ t, TyX K s.H u t ∧ PySem.W.kitOne K t (.type n) = some b := by
  have sc : (∀ xs, v ≠ .lst xs) → RV K xc s v u := fun h => (w.peekV ex h).2
  have lst : ∀ xs, v = .lst xs → TyX K s.H u (.type "list") := fun xs hv => by
    subst hv
    unfold IA.EV.peek at ex
    split at ex
    · rename_i m
      obtain ⟨ys, q, e2⟩ := Option.map_eq_some_iff.mp ex
      obtain ⟨a, us, rfl, ha, _⟩ := w.list r q
      exact tyx_lst (SqL.of ha)
    · cases ex
      obtain ⟨a, us, rfl, h2, _⟩ := RV.lstE (K := K) (xc := xc) (s := s) w
      exact tyx_lst (SqL.of h2.2)
    · obtain ⟨ys, q, e2⟩ := Option.map_eq_some_iff.mp ex
      obtain ⟨a, us, rfl, ha, _⟩ := w.list r q
      exact tyx_lst (SqL.of ha)
  cases v with
  | non =>
    have := sc (fun _ z => nomatch z)
    simp only [RV] at this
    subst this
    refine ⟨_, .base .non, kit_ty ?_⟩
    cases ty <;> cases hn <;> cases e <;> decide +kernel
  | bl k =>
    have := sc (fun _ z => nomatch z)
    simp only [RV] at this
    subst this
    refine ⟨_, .base (.bl k), kit_ty ?_⟩
    cases ty <;> cases hn <;> cases e <;> decide +kernel
  | int k =>
    have := sc (fun _ z => nomatch z)
    simp only [RV] at this
    subst this
    refine ⟨_, .base (.int k), kit_ty ?_⟩
    cases ty <;> cases hn <;> cases e <;> decide +kernel
  | str k =>
    have := sc (fun _ z => nomatch z)
    simp only [RV] at this
    subst this
    refine ⟨_, .base (.str _), kit_ty ?_⟩
    cases ty <;> cases hn <;> cases e <;> decide +kernel
  | tup xs =>
    obtain ⟨a, us, rfl, h2, _⟩ := (sc (fun _ z => nomatch z)).tupE
    refine ⟨_, tyx_tup h2, kit_ty ?_⟩
    cases ty <;> cases hn <;> cases e <;> decide +kernel
  | lst xs =>
    refine ⟨_, lst xs rfl, kit_ty ?_⟩
    cases ty <;> cases hn <;> cases e <;> decide +kernel
  | obj C fs => cases ty <;> cases hn <;> cases e
  | ref m => cases ty <;> cases hn <;> cases e
  | scr xs => cases ty <;> cases hn <;> cases e
end
section
variable {Γ : IA.Env} {X : Cx} {xc : XC} {W : WX} {a e2 : Expr} {ea : IA.E} {p pos : Pos}
theorem se_isi {x2 : Str} {p2 : Pos} {ty : IA.Ty} {n : String} (hg : Gl X "isinstance") (hm : X.mg "isinstance" = none) (hm2 : X.mg x2 = none) (ha : SE Γ X xc W a ea) (hg2 : Gl X x2 := by rfl) (hv2 : bootBuiltins x2 = some (.type n) := by decide +kernel) (hn : tyS ty = some n := by rfl) (hn2 : x2 ≠ "__name__" := by decide) (hd2 : (x2 == ("__debug__" : Str)) = false := by decide)
    (h0 : starEach (a :: [.Name x2 p2]) X.env = (false, eval a X.env) :: starEach [.Name x2 p2] X.env := by rfl) (h1 : starEach (.Name x2 p2 :: []) X.env = (false, eval (.Name x2 p2) X.env) :: starEach [] X.env := by rfl) (hpl : (backTo pos (starEach [.Name x2 p2] X.env)).any (·.1) = false := by rfl) :
    SE Γ X xc W (.Call (.Name "isinstance" p) [a, .Name x2 p2] [] pos) (.isi ea [ty]) := by
  obtain ⟨t, pt, f⟩ := ha.ex
  refine ⟨_, pe_callB call_isi hg hm (by decide +kernel) (pa_cons pt (pa_cons (pe_bltn (v := .ty n) hg2 hm2 hv2 rfl hn2 hd2) pa_nil h1) h0) (by decide) (by decide) h0 hpl, fun s σ st r Q h => ?_⟩
  simp only [IA.ev] at h
  refine f s σ st r _ (bindE h fun x st1 s1 u l1 r1 w1 q1 => ?_)
  obtain ⟨v, ev, q1⟩ := Post.get q1
  obtain ⟨bs, eb, q1⟩ := Post.get q1
  have eb' : IA.ofT v ty = some (bs.any id) := by
    simp only [List.mapM_cons, List.mapM_nil] at eb
    cases q : IA.ofT v ty with
    | none => rw [q] at eb; cases eb
    | some b =>
      rw [q] at eb
      cases eb
      simp
  obtain ⟨t', ht, hk⟩ := isi_read r1 w1 ev hn eb'
  exact ⟨u, .ty n, t', .type n, _, rfl, .ty n, ht, hk, finB q1 r1⟩
end
/-! ### a new list of the heap -/
def Sit.hpN (s : Sit) (n : Nat) (p : Addr) (o : HO) : Sit := ⟨fun b => s.M b ∨ b = p, fun b => s.T b ∨ b = p, fun i => if i = n then some p else s.R i, upd s.H p o⟩
theorem Rel.hpN {K : PySem.W.Frag} {xc : XC} {s : Sit} {σ : L2.St} {st : IA.St} {p : Addr} {o : HO} {c : IA.Cell} (r : Rel K xc s σ st) (n : s.H p = none) (hc : RC K xc (s.hpN st.h.next p o) p c) :
    Le s (s.hpN st.h.next p o) ∧ Rel K xc (s.hpN st.h.next p o) σ ⟨st.σ, st.h.new c⟩ := by
  have up : ∀ b u, s.H b = some u → (s.hpN st.h.next p o).H b = some u := fun b u e => (upd_ne (ne_of_none e n)).trans e
  have hR : ∀ m a, s.R m = some a → (if m = st.h.next then some p else s.R m) = some a := fun m a e => by
    rw [if_neg fun z => by rw [z, r.hp.nxt _ (Nat.le_refl _)] at e; cases e]
    exact e
  have L : Le s (s.hpN st.h.next p o) :=
    ⟨fun b u _ e => up b u e, fun b u _ e => up b u e, fun b u e => ⟨u, up b u e⟩, fun b h => h.imp id fun h => by rw [h]; exact n, fun b h => h.imp id fun h => by rw [h]; exact n, fun _ _ _ h _ => .inl h, hR, fun m a e => by
      have e' : (if m = st.h.next then some p else s.R m) = some a := e
      split at e'
      · cases e'; exact .inr n
      · exact .inl e'⟩
  refine ⟨L, ⟨⟨fun b h => h.imp (r.hp.mt b) id, fun b h => ?_, fun m a e => ?_, fun m k a e1 e2 => ?_, fun m hn => ?_, fun m d e => ?_⟩, r.exsM L, r.len, fun i y e => ?_, fun i xs e => ?_, r.oinj, fun i xs a m e1 e2 e3 => ?_⟩⟩
  · rcases h with h | h
    · obtain ⟨u, e⟩ := r.hp.ex b h
      exact ⟨u, up b u e⟩
    · exact ⟨_, by rw [h]; exact upd_same⟩
  · have e' : (if m = st.h.next then some p else s.R m) = some a := e
    split at e'
    · cases e'; exact ⟨_, upd_same⟩
    · obtain ⟨u, e2⟩ := r.hp.rex m a e'
      exact ⟨u, up a u e2⟩
  · have e1' : (if m = st.h.next then some p else s.R m) = some a := e1
    have e2' : (if k = st.h.next then some p else s.R k) = some a := e2
    split at e1' <;> split at e2'
    · omega
    · cases e1'
      obtain ⟨u, e3⟩ := r.hp.rex k p e2'
      rw [n] at e3; cases e3
    · cases e2'
      obtain ⟨u, e3⟩ := r.hp.rex m p e1'
      rw [n] at e3; cases e3
    · exact r.hp.inj m k a e1' e2'
  · have hn' : st.h.next + 1 ≤ m := hn
    show (if m = st.h.next then some p else s.R m) = none
    rw [if_neg (by omega)]
    exact r.hp.nxt m (by omega)
  · simp only [IA.AHeap.new] at e
    split at e
    · rename_i hm
      cases e
      exact ⟨p, by show (if m = st.h.next then some p else s.R m) = _; rw [if_pos hm], .inr rfl, hc⟩
    · obtain ⟨a, h1, h2, h3⟩ := r.hp.cell m d e
      refine ⟨a, hR m a h1, .inl h2, h3.mono r.hp.mt L ?_⟩
      obtain ⟨u, e2⟩ := r.hp.ex a (r.hp.mt a h2)
      rw [up a u e2, e2]
  · obtain ⟨v, h1, h2⟩ := r.slot i y e
    exact ⟨v, h1, RV.mono r.hp.mt L _ _ h2⟩
  · obtain ⟨b, us, g1, g2, g3, g4⟩ := r.own i xs e
    exact ⟨b, us, g1, .inl g2, up b _ g3, RVs.mono r.hp.mt L _ _ g4⟩
  · have e' : (if m = st.h.next then some p else s.R m) = some a := e3
    obtain ⟨b, us, g1, g2, g3, g4⟩ := r.own i xs e1
    rw [e2] at g1
    cases g1
    split at e'
    · cases e'
      rw [n] at g3; cases g3
    · exact r.ohp i xs a m e1 e2 e'
theorem Le.hpN {K : PySem.W.Frag} {xc : XC} {s : Sit} {σ : L2.St} {st : IA.St} {p : Addr} {o : HO} (r : Rel K xc s σ st) (n : s.H p = none) : Le s (s.hpN st.h.next p o) :=
  ⟨fun b u _ e => (upd_ne (ne_of_none e n)).trans e, fun b u _ e => (upd_ne (ne_of_none e n)).trans e, fun b u e => ⟨u, (upd_ne (ne_of_none e n)).trans e⟩, fun b h => h.imp id fun h => by rw [h]; exact n, fun b h => h.imp id fun h => by rw [h]; exact n, fun _ _ _ h _ => .inl h, fun m a e => by
      show (if m = st.h.next then some p else s.R m) = some a
      rw [if_neg fun z => by rw [z, r.hp.nxt _ (Nat.le_refl _)] at e; cases e]
      exact e, fun m a e => by
      have e' : (if m = st.h.next then some p else s.R m) = some a := e
      split at e'
      · cases e'; exact .inr n
      · exact .inl e'⟩
section
variable {Γ : IA.Env} {X : Cx} {xc : XC} {W : WX} {a b e : Expr} {es : List Expr} {ea : IA.E} {er : IA.Es} {p pos : Pos}
theorem se_heap (h : SE Γ X xc W e ea) : SE Γ X xc W e (.heap ea) := by
  obtain ⟨t, pt, f⟩ := h.ex
  refine ⟨_, pt, fun s σ st r Q h => ?_⟩
  simp only [IA.ev] at h
  refine f s σ st r _ (Post.bind h fun x st1 s1 l1 r1 q1 u H' e => ?_)
  cases x with
  | new xs =>
    obtain ⟨p, us, rfl, n, rfl, rs⟩ := e
    have L := Le.hpN (o := .lst us) r1 n
    obtain ⟨l2, r2⟩ := r1.hpN (o := .lst us) (c := .lst xs) n ⟨us, upd_same, RVs.mono r1.hp.mt L _ _ rs⟩
    exact q1 _ l2 r2 (.ref p) _ ⟨rfl, by simp only [RV]; exact ⟨p, rfl, if_pos rfl⟩⟩
  | val v => exact q1.elim
  | own i => exact q1.elim
/-! ### f-strings -/
/-! ### statements -/
theorem ss_raise {D fl : String} {x : Str} {k : Nat} {f : Addr} {p2 : Pos} (hc : X.calm = true) (B : PySem.BadX.BadTxt X.prog X.K X.mg x (Str.ofString fl) (He.ga X.K (Str.ofString D)) f) (hr : Room k X.A) (tk : Takes X W) (ha : SE Γ X xc W a ea)
    (hfl : fl = fieldX D := by rfl) (hg : Gl X x := by rfl) (hdb : (x == ("__debug__" : Str)) = false := by decide) (hs : starEach (a :: []) X.env = (false, eval a X.env) :: starEach [] X.env := by rfl) (hpl : (backTo pos (starEach [] X.env)).any (·.1) = false := by rfl) : SS Γ X xc W (.Raise (some (.Call (.Name x p) [a] [] pos)) none p2) (.raise D ea) := by
  subst hfl
  obtain ⟨t, pt, f⟩ := ha.ex
  refine ⟨_, ps_raiseBad hc B hr tk (pa_cons pt pa_nil hs) hg hdb hs hpl, fun s σ c r E h => ?_⟩
  simp only [IA.exec] at h
  refine f s σ c r _ (bindS h fun x c1 s1 u l1 r1 w1 q1 => ?_)
  obtain ⟨v, c2, s2, l2, e2, r2, rv, q2⟩ := PostS.keep r1 w1 q1
  rw [← e2]
  refine ⟨u, rfl, fun d hd => ?_⟩
  have L := Le.add (o := .xd [(Str.ofString (fieldX D), u)]) hd
  exact q2 s2 σ (Le.refl s2) (s2.add d _) d u L (r2.add hd) (r2.hp.noT hd) upd_same (RV.mono r2.hp.mt L _ _ rv)
end
end IS

set_option Elab.async false
set_option linter.all false
set_option maxRecDepth 100000
set_option maxHeartbeats 2000000
/-! ## The small machine: isinstance with an own class (own text) -/
namespace BE
open PySem PySem.W PySem.Spec PyProof.Rows L2 He
/-- what isinstance asks of the class of the thing, and of the class that is asked for -/
def iscB (x : Str) (K : Frag) : Bool := (Fa.cls x).ok K && (eqO (findIn K (.ref (ga K x)) "__class__") (some (some (.builtin "object.__class__"))) && (eqO (specialIn K (.builtin "object.__class__") "__get__") (some (some (.builtin "getset_descriptor.__get__"))) &&
  (decide (takesIn K (.builtin "object.__class__") = some true) && decide (mroIn K (ga K x) (.type "object") = some true))))
def kitB2 (x y : Str) (b : Bool) (K : Frag) : Bool := decide (kitOne K (.ref (ga K x)) (.ref (ga K y)) = some b)
structure Isc (K : Frag) (x : Str) : Prop where
  cl : Cls K (ga K x)
  ha : findIn K (.ref (ga K x)) "__class__" = some (some (.builtin "object.__class__"))
  hn : specialIn K (.builtin "object.__class__") "__get__" = some (some (.builtin "getset_descriptor.__get__"))
  htk : takesIn K (.builtin "object.__class__") = some true
  hm : mroIn K (ga K x) (.type "object") = some true
theorem isc_ok {K : Frag} {x : Str} (h : iscB x K = true) : Isc K x := by
  unfold iscB at h
  obtain ⟨h1, h⟩ := ba h
  obtain ⟨h2, h⟩ := ba h
  obtain ⟨h3, h⟩ := ba h
  obtain ⟨h4, h5⟩ := ba h
  exact ⟨cls_ok h1, eqO_ok h2, eqO_ok h3, of_decide_eq_true h4, of_decide_eq_true h5⟩
theorem kit2_ok {K : Frag} {x y : Str} {b : Bool} (h : kitB2 x y b K = true) : kitOne K (.ref (ga K x)) (.ref (ga K y)) = some b := of_decide_eq_true h
end BE
namespace IS
open PySem PySem.Spec PyProof.Rows L2 BL
def Iscs (K : PySem.W.Frag) (D : String) (cs : List String) : Prop := ∀ C ∈ cs, BE.Isc K (Str.ofString C) ∧ PySem.W.kitOne K (.ref (He.ga K (Str.ofString C))) (.ref (He.ga K (Str.ofString D))) = some (decide (C = D))
theorem iscs_nil {K : PySem.W.Frag} {D : String} : Iscs K D [] := fun _ h => nomatch h
theorem iscs_cons {K : PySem.W.Frag} {D C : String} {cs : List String} {b : Bool} (h1 : BE.Isc K (Str.ofString C)) (h2 : PySem.W.kitOne K (.ref (He.ga K (Str.ofString C))) (.ref (He.ga K (Str.ofString D))) = some b) (h : Iscs K D cs) (hb : decide (C = D) = b := by decide) : Iscs K D (C :: cs) := fun E hE => by
  rcases List.mem_cons.mp hE with rfl | hE
  · exact ⟨h1, by rw [hb]; exact h2⟩
  · exact h E hE
section
variable {Γ : IA.Env} {X : Cx} {xc : XC} {W : WX} {a e2 : Expr} {ea : IA.E} {p pos : Pos}
theorem se_isiC {x2 : Str} {p2 : Pos} {D : String} {cs : List String} (F : Iscs X.K D cs) (hg : Gl X "isinstance") (hm : X.mg "isinstance" = none) (hm2 : X.mg x2 = some (.ref (He.ga X.K (Str.ofString D)))) (ha : SE Γ X xc W a ea) (hg2 : Gl X x2 := by rfl) (hd2 : (x2 == ("__debug__" : Str)) = false := by decide)
    (h0 : starEach (a :: [.Name x2 p2]) X.env = (false, eval a X.env) :: starEach [.Name x2 p2] X.env := by rfl) (h1 : starEach (.Name x2 p2 :: []) X.env = (false, eval (.Name x2 p2) X.env) :: starEach [] X.env := by rfl) (hpl : (backTo pos (starEach [.Name x2 p2] X.env)).any (·.1) = false := by rfl) :
    SE Γ X xc W (.Call (.Name "isinstance" p) [a, .Name x2 p2] [] pos) (.isi ea [.cls D cs]) := by
  obtain ⟨t, pt, f⟩ := ha.ex
  refine ⟨_, pe_callB call_isi hg hm (by decide +kernel) (pa_cons pt (pa_cons (pe_glob (v := .ref (He.ga X.K (Str.ofString D))) hg2 hm2 rfl hd2) pa_nil h1) h0) (by decide) (by decide) h0 hpl, fun s σ st r Q h => ?_⟩
  simp only [IA.ev] at h
  refine f s σ st r _ (bindE h fun x st1 s1 u l1 r1 w1 q1 => ?_)
  obtain ⟨v, ev, q2⟩ := Post.get q1
  obtain ⟨bs, eb, q3⟩ := Post.get q2
  have eb' : IA.ofT v (.cls D cs) = some (bs.any id) := by
    simp only [List.mapM_cons, List.mapM_nil] at eb
    cases q : IA.ofT v (.cls D cs) with
    | none => rw [q] at eb; cases eb
    | some b =>
      rw [q] at eb
      cases eb
      simp
  cases v with
  | obj C fs =>
    have hv := (w1.peekV ev (fun _ z => nomatch z)).2
    obtain ⟨b, dx, us, rfl, n, q, rf⟩ : ∃ b dx us, u = .ref b ∧ ¬ s1.T b ∧ s1.H b = some (.ins (He.ga X.K (Str.ofString C)) dx us) ∧ RFs X.K xc s1 fs us := by simpa only [RV] using hv
    simp only [IA.ofT] at eb'
    split at eb'
    · rename_i hc
      have eb2 := Option.some.inj eb'
      obtain ⟨g1, g2⟩ := F C hc
      exact ⟨.ref b, .ref (He.ga X.K (Str.ofString D)), .ref (He.ga X.K (Str.ofString C)), .ref (He.ga X.K (Str.ofString D)), _, rfl, .own _, .base (.ins q g1.cl g1.ha g1.hn g1.htk g1.hm), g2, by rw [eb2]; exact finB q3 r1⟩
    · cases eb'
  | _ => simp only [IA.ofT] at eb'; cases eb'
end
end IS

set_option Elab.async false
set_option linter.all false
set_option maxRecDepth 100000
set_option maxHeartbeats 2000000
/-! ## The small machine: == of own instances (own text) -/
namespace L2
open PySem PySem.Spec PyProof.Rows BL
section
variable {X : Cx} {k : Nat} {f C : Addr} {ps : List Str} {sp : Sp}
/-- two instances of a class with a == of its own, which answers with a truth value -/
def rOwn (C : Addr) (sp : Sp) : R2 := fun x y H Q => ∃ a b dx dy fs gs, x = .ref a ∧ y = .ref b ∧ H a = some (.ins C dx fs) ∧ H b = some (.ins C dy gs) ∧ sp [x, y] H (fun z H' => (∃ t, z = .bl t) ∧ Q z H') (WE (fun _ _ _ _ => False) [])
theorem op_own (Ca : Cal X.prog X.w X.K X.mg X.base (L2.CX X.prog X.w) k f ps sp) (hr : Room k X.A) (hm : Meth X.K C "__eq__" f) (hE : ∀ σ cls d H, WE (fun _ _ _ _ => False) σ cls d H = WE (fun _ _ _ _ => False) [] cls d H) : OpR X (compareOp .Eq) (rOwn C sp) := by
  intro pins s σ H x y v u Q I rx ry hq
  obtain ⟨a, b, dx, dy, fs, gs, rfl, rfl, ha, hb, hsp⟩ := hq
  cases rx
  cases ry
  show wpAny (model X.prog X.w) X.A (richCompare .Eq (.ref a) (.ref b)) (EP X pins σ Q) X.xe s
  obtain ⟨mA, J, _⟩ := ins_get I.hok ha
  obtain ⟨mB, J', _⟩ := ins_get I.hok hb
  obtain ⟨od, J, _⟩ := J.look
  obtain ⟨od', J', _⟩ := J'.look
  obtain ⟨m, hF⟩ := I.fr
  refine PySem.W.cmp_K (op := .Eq) (tb := .ref C) hr.units0 hF I.ok.mod.kin J J'.type (by simp [PySem.W.notFirst]) hm.at_ hm.fn ?_
  have e : sp [.ref a, .ref b] H (fun z H' => (∃ t, z = .bl t) ∧ Q z H') (WE (fun _ _ _ _ => False) σ) := hsp
  refine wpAny_mono (run_fnA (W := fun _ _ _ _ => False) (us := [.ref a, .ref b]) Ca hr takes0 I (show Vals [V.ref a, V.ref b] [Value.ref a, Value.ref b] from .cons rfl (.cons rfl .nil)) e) (fun r s' hz => ?_) fun _ _ z => z
  obtain ⟨z, H', I', rz, ⟨t, ez⟩, q⟩ := hz
  subst ez
  cases rz
  exact ⟨.bl t, H', I', rfl, q⟩
end
end L2
namespace IS
open PySem PySem.Spec PyProof.Rows L2 BL
section
variable {Γ : IA.Env} {X : Cx} {W : WX} {k : Nat} {f : Addr} {ps : List Str} {a b : Expr} {ea eb : IA.E} {pos : Pos}
theorem eqo_read {D : String} {s : Sit} {σ : L2.St} {st : IA.St} {x y : IA.EV} {u v : V} {Q : VK} (r : Rel X.K none s σ st) (w1 : RVW X.K none s σ x u) (w2 : RVW X.K none s σ y v)
    (h : Post X.K none s σ W (NE X.K none σ Q) (IA.eqoE Γ D x y st)) : rOwn (He.ga X.K (Str.ofString D)) (SpF X.K (Γ.call (D ++ ".__eq__"))) u v s.H Q := by
  unfold IA.eqoE at h
  split at h
  · rename_i C fs C' gs
    split at h
    · rename_i hc
      obtain ⟨hc1, hc2⟩ := hc
      subst hc1
      subst hc2
      obtain ⟨p, dx, us, rfl, n, q, rf⟩ : ∃ a dx us, u = .ref a ∧ ¬ s.T a ∧ s.H a = some (.ins (He.ga X.K (Str.ofString C')) dx us) ∧ RFs X.K none s fs us := by simpa only [RVW, RV] using w1
      obtain ⟨p', dx', us', rfl, n', q', rf'⟩ : ∃ a dx us, v = .ref a ∧ ¬ s.T a ∧ s.H a = some (.ins (He.ga X.K (Str.ofString C')) dx us) ∧ RFs X.K none s gs us := by simpa only [RVW, RV] using w2
      refine ⟨p, p', dx, dx', us, us', rfl, rfl, q, q', ?_⟩
      refine ⟨s.inn, st.h, _, rfl, r.hp.inn, RVs.mono r.hp.mt (Le.inn s) _ _ (RVs.cons w1 (RVs.cons w2 RVs.nil)), ?_⟩
      cases e : Γ.call (C' ++ ".__eq__") [.obj C' fs, .obj C' gs] st.h with
      | ok z h' =>
        rw [e] at h
        cases z with
        | bl t =>
          intro s1 uu l qq rv
          obtain ⟨s', e1, L, LV, r'⟩ := r.after l qq
          refine ⟨⟨t, by simpa only [RV] using rv⟩, ?_⟩
          rw [← e1]
          exact h s' L r' uu _ ⟨rfl, RV.monoV LV _ _ rv⟩
        | _ => exact h.elim
      | exc C v h' => rw [e] at h; exact h.elim
      | stuck => rw [e] at h; exact h.elim
    · exact h.elim
  · exact h.elim
theorem se_eqo {D : String} (hm : Meth X.K (He.ga X.K (Str.ofString D)) "__eq__" f) (Ca : CalF Γ X k f ps (D ++ ".__eq__")) (hr : Room k X.A) (ha : SE Γ X none W a ea) (hb : SE Γ X none W b eb) (hk : behindInMarks .Eq b = false) : SE Γ X none W (.Compare a [.Eq] [b] pos) (.eqo D ea eb) := by
  obtain ⟨ta, pa, fa⟩ := ha.ex
  obtain ⟨tb, pb, fb⟩ := hb.ex
  refine ⟨_, pe_cmpR (op_own Ca hr hm (fun _ _ _ _ => rfl)) pa pb hk, fun s σ st rel Q h => ?_⟩
  simp only [IA.ev] at h
  refine fa s σ st rel _ (bindE h fun x st1 s1 u l1 r1 w1 q1 => ?_)
  refine fb s1 σ st1 r1 _ (bindE q1 fun y st2 s2 v l2 r2 w2 q2 => ?_)
  exact eqo_read r2 (w1.mono r1.hp.mt l2) w2 q2
end
end IS

set_option Elab.async false
set_option linter.all false
set_option maxRecDepth 100000
set_option maxHeartbeats 2000000
/-! ## The small machine: try .. except, and what a suite does (own text) -/
namespace IS
open PySem PySem.Spec PyProof.Rows L2 BL
/-! ### the weakest wish of a block -/
def tw (X : Cx) (sts : List Stmt) : TS := fun D σ H => ∀ (pins : List (Addr × Obj)) (s : Shared), Inv X pins σ H s → wpAny (model X.prog X.w) X.A (execs sts X.env) (SP X pins D) X.xe s
theorem tw_of {X : Cx} {sts : List Stmt} {t : TS} (p : PSs X sts t) {D : Ends} {σ : L2.St} {H : Hp} (h : t D σ H) : tw X sts D σ H := fun pins s I => p.run pins s σ H D I h
/-- .. of a try's body, whatever the catch -/
def tbody (X : Cx) (sts : List Stmt) (W : WX) : TS := fun D σ H => ∀ (pn : List (Addr × Obj)) (xe : Value → Shared → Prop), Takes (X.tr pn xe) W → PassesOwn (model X.prog X.w) X.A X.env xe → tw (X.tr pn xe) sts D σ H
/-- .. of an except suite -/
def tsuit (X : Cx) (sts : List Stmt) (a : Addr) (cls : Value) (d : Option Addr) : TS := fun D σ H => ∀ (oe : Obj) (pn : List (Addr × Obj)), Zc cls d oe → (∃ vs, oe.data = .fields vs) → tw (X.suite a ((a, oe) :: pn)) sts D σ H
/-- what a clause asks of the classes that may be raised -/
def Exms (K : PySem.W.Frag) (C : String) (xs : List String) : Prop := ∀ D ∈ xs, PySem.W.exmOne K (.ref (He.ga K (Str.ofString D))) (.ref (He.ga K (Str.ofString C))) = some (IA.baseC D C)
theorem exms_nil {K : PySem.W.Frag} {C : String} : Exms K C [] := fun _ h => nomatch h
theorem exms_cons {K : PySem.W.Frag} {C D : String} {xs : List String} {b : Bool} (h1 : PySem.W.exmOne K (.ref (He.ga K (Str.ofString D))) (.ref (He.ga K (Str.ofString C))) = some b) (h : Exms K C xs) (hb : IA.baseC D C = b := by decide) : Exms K C (D :: xs) := fun E hE => by
  rcases List.mem_cons.mp hE with rfl | hE
  · rw [hb]; exact h1
  · exact h E hE
section
variable {K : PySem.W.Frag} {s s' : Sit} {σ : L2.St} {st : IA.St}
/-- the name of the clause is set -/
theorem Rel.setX (r : Rel K none s σ st) (i : Nat) {C : String} {v : IA.Val} {a d : Addr} {u : V} (nT : ¬ s.T d) (hd : s.H d = some (.xd [(Str.ofString (fieldX C), u)])) (rv : RV K none s v u) :
    Rel K (some (a, d, C)) s (σ.set i (some (.ref a))) ⟨st.σ.set i (some (.exc C v)), st.h⟩ := by
  have f : ∀ (j : Nat) x, (st.σ.set i (some (.exc C v)))[j]? = some (some x) → (j = i ∧ x = .exc C v ∧ i < st.σ.length) ∨ (j ≠ i ∧ st.σ[j]? = some (some x)) := fun j x e => by
    by_cases hj : j = i
    · subst hj
      have hlt : j < st.σ.length := by
        have := (List.getElem?_eq_some_iff.mp e).1
        simpa using this
      rw [List.getElem?_set_self hlt] at e
      cases e
      exact .inl ⟨rfl, rfl, hlt⟩
    · exact .inr ⟨hj, by rwa [List.getElem?_set_ne (Ne.symm hj)] at e⟩
  refine ⟨⟨r.hp.mt, r.hp.ex, r.hp.rex, r.hp.inj, r.hp.nxt, fun n c e => ?_⟩, fun j D x e => ?_, by simpa using r.len, fun j x e => ?_, fun j xs e => ?_, fun j k xs ys b e1 e2 e3 e4 => ?_, fun j xs b n e1 e2 => ?_⟩
  · obtain ⟨b, h1, h2, h3⟩ := r.hp.cell n c e
    refine ⟨b, h1, h2, ?_⟩
    cases c with
    | lst xs => obtain ⟨us, h, q⟩ := h3; exact ⟨us, h, RVs.xcs _ _ q⟩
    | ins C fs => obtain ⟨dx, us, h, q⟩ := h3; exact ⟨dx, us, h, RFs.xcs _ _ q⟩
    | dct fs => obtain ⟨us, h, q, nd⟩ := h3; exact ⟨us, h, RFs.xcs _ _ q, nd⟩
  · rcases f j _ e with ⟨rfl, ex, hlt⟩ | ⟨hj, e⟩
    · cases ex
      exact ⟨a, d, u, rfl, by rw [List.getElem?_set_self (by rw [← r.len]; exact hlt)], nT, hd, RV.xcs _ _ rv⟩
    · obtain ⟨_, _, _, z, _⟩ := r.exs j _ _ e
      cases z
  · rcases f j _ e with ⟨rfl, ex, hlt⟩ | ⟨hj, e⟩
    · cases ex
    · obtain ⟨w, h1, h2⟩ := r.slot j x e
      exact ⟨w, by rw [List.getElem?_set_ne (Ne.symm hj)]; exact h1, RV.xcs _ _ h2⟩
  · rcases f j _ e with ⟨rfl, ex, hlt⟩ | ⟨hj, e⟩
    · cases ex
    · obtain ⟨b, us, h1, h2, h3, h4⟩ := r.own j xs e
      exact ⟨b, us, by rw [List.getElem?_set_ne (Ne.symm hj)]; exact h1, h2, h3, RVs.xcs _ _ h4⟩
  · rcases f j _ e1 with ⟨rfl, ex, hlt⟩ | ⟨hj, e1⟩
    · cases ex
    rcases f k _ e2 with ⟨rfl, ex, hlt⟩ | ⟨hk, e2⟩
    · cases ex
    rw [List.getElem?_set_ne (Ne.symm hj)] at e3
    rw [List.getElem?_set_ne (Ne.symm hk)] at e4
    exact r.oinj j k xs ys b e1 e2 e3 e4
  · rcases f j _ e1 with ⟨rfl, ex, hlt⟩ | ⟨hj, e1⟩
    · cases ex
    rw [List.getElem?_set_ne (Ne.symm hj)] at e2
    exact r.ohp j xs b n e1 e2
/-- .. and goes -/
theorem Rel.unsetX {xc : XC} (r : Rel K xc s σ st) (i : Nat) (hn : IA.noX (st.σ.set i none) = true) : Rel K none s (σ.set i none) ⟨st.σ.set i none, st.h⟩ := by
  have f : ∀ (j : Nat) x, (st.σ.set i none)[j]? = some (some x) → j ≠ i ∧ st.σ[j]? = some (some x) := fun j x e => by
    by_cases hj : j = i
    · subst hj
      have hlt : j < st.σ.length := by
        have := (List.getElem?_eq_some_iff.mp e).1
        simpa using this
      rw [List.getElem?_set_self hlt] at e
      cases e
    · exact ⟨hj, by rwa [List.getElem?_set_ne (Ne.symm hj)] at e⟩
  refine ⟨⟨r.hp.mt, r.hp.ex, r.hp.rex, r.hp.inj, r.hp.nxt, fun n c e => ?_⟩, fun j D x e => ?_, by simpa using r.len, fun j x e => ?_, fun j xs e => ?_, fun j k xs ys b e1 e2 e3 e4 => ?_, fun j xs b n e1 e2 => ?_⟩
  · obtain ⟨b, h1, h2, h3⟩ := r.hp.cell n c e
    refine ⟨b, h1, h2, ?_⟩
    cases c with
    | lst xs => obtain ⟨us, h, q⟩ := h3; exact ⟨us, h, RVs.xcs _ _ q⟩
    | ins C fs => obtain ⟨dx, us, h, q⟩ := h3; exact ⟨dx, us, h, RFs.xcs _ _ q⟩
    | dct fs => obtain ⟨us, h, q, nd⟩ := h3; exact ⟨us, h, RFs.xcs _ _ q, nd⟩
  · have z := List.all_eq_true.mp (show (st.σ.set i none).all _ = true from hn) _ (List.mem_of_getElem? e)
    simp at z
  · obtain ⟨hj, e⟩ := f j _ e
    obtain ⟨w, h1, h2⟩ := r.slot j x e
    exact ⟨w, by rw [List.getElem?_set_ne (Ne.symm hj)]; exact h1, RV.xcs _ _ h2⟩
  · obtain ⟨hj, e⟩ := f j _ e
    obtain ⟨b, us, h1, h2, h3, h4⟩ := r.own j xs e
    exact ⟨b, us, by rw [List.getElem?_set_ne (Ne.symm hj)]; exact h1, h2, h3, RVs.xcs _ _ h4⟩
  · obtain ⟨hj, e1⟩ := f j _ e1
    obtain ⟨hk, e2⟩ := f k _ e2
    rw [List.getElem?_set_ne (Ne.symm hj)] at e3
    rw [List.getElem?_set_ne (Ne.symm hk)] at e4
    exact r.oinj j k xs ys b e1 e2 e3 e4
  · obtain ⟨hj, e1⟩ := f j _ e1
    rw [List.getElem?_set_ne (Ne.symm hj)] at e2
    exact r.ohp j xs b n e1 e2
end
section
variable {Γ : IA.Env} {X : Cx} {W : WX} {x n : Str} {C : String} {i : Nat} {body suite : List Stmt} {b₀ : Stmt} {np pos pos' : Pos} {ab ah : IA.Ss} {xs : List String}
theorem ss_try_as (hs : X.stack = X.env :: X.outer) (hf : X.env.frame = some X.env.locals) (hN : X.N.Nodup) (hi : X.N[i]? = some n) (hln : X.env.kindOf n = some .local) (hc : Names X x (.ref (He.ga X.K (Str.ofString C)))) (tk : Takes X W) (hx : Exms X.K C xs)
    (hb : ∀ (W : WX) (pn : List (Addr × Obj)) (xe : Value → Shared → Prop), Takes (X.tr pn xe) W → PassesOwn (model X.prog X.w) X.A X.env xe → SSs Γ (X.tr pn xe) none W body ab)
    (hsu : ∀ (a : Addr) (oe : Obj) (D : String) (d : Addr) (pn : List (Addr × Obj)), D ∈ xs → Zc (.ref (He.ga X.K (Str.ofString D))) (some d) oe → (∃ vs, oe.data = .fields vs) → SSs Γ (X.suite a ((a, oe) :: pn)) (some (a, d, D)) (fun _ _ _ _ => False) (b₀ :: suite) ah) :
    SS Γ X none W (.Try body [.ExceptHandler (some (.Name x np)) (some n) (b₀ :: suite) pos'] [] [] pos) (.try ab C (some i) ah .nil xs) := by
  refine ⟨_, ps_try_as (tb := tbody X body) (ts := tsuit X (b₀ :: suite)) (Wout := W) hs hf hN hi hln hc tk (fun W pn xe tk pa => ⟨fun pins s σ H D I h => h pn xe tk pa pins s I⟩) (fun a oe cls d pn hz hf => ⟨fun pins s σ H D I h => h oe pn hz hf pins s I⟩), fun s σ c r D h => ?_⟩
  intro pn xe tk' pa
  obtain ⟨t, pt, f⟩ := (hb _ pn xe tk' pa).ex
  refine tw_of pt (f s σ c r D ?_)
  simp only [IA.exec] at h
  split at h
  · cases q : IA.execs Γ ab c with
    | stuck => rw [q] at h; exact h.elim
    | ok fl c1 =>
      rw [q] at h
      cases fl with
      | nxt =>
        simp only [IA.execs] at h
        exact h
      | brk => exact h
      | ret v => exact h
    | exc D0 v c1 =>
      rw [q] at h
      simp only at h
      split at h
      · rename_i hD
        intro s1 σ1 l1 s2 d u l2 r2 nT hd rv
        refine ⟨_, hx D0 hD, fun hb1 a na => ?_, fun hb1 => ?_⟩
        · rw [if_pos hb1] at h
          intro oe pn2 hz hf2
          obtain ⟨t2, p2, f2⟩ := (hsu a oe D0 d pn2 hD hz hf2).ex
          refine tw_of p2 (f2 s2 _ _ (r2.setX i nT hd rv) _ ?_)
          cases q3 : IA.execs Γ ah ⟨c1.σ.set i (some (.exc D0 v)), c1.h⟩ with
          | stuck => rw [q3] at h; exact h.elim
          | exc D1 v1 c2 => rw [q3] at h; exact h.elim
          | ok fl c2 =>
            rw [q3] at h
            simp only [IA.Res.quiet, IA.Res.bind, IA.Res.chk] at h
            split at h
            · rename_i hn
              have L : Le s s2 := l1.trans l2
              cases fl with
              | nxt => exact fun s3 σ3 l3 r3 => h s3 _ (L.trans l3) (r3.unsetX i hn)
              | brk => exact fun s3 σ3 l3 r3 => h s3 _ (L.trans l3) (r3.unsetX i hn)
              | ret w => exact fun s3 σ3 u3 l3 r3 rv3 => h s3 _ u3 (L.trans l3) (r3.unsetX i hn) (RV.xcs _ _ rv3)
            · exact h.elim
        · rw [if_neg (by rw [hb1]; exact Bool.false_ne_true)] at h
          exact h s1 σ1 l1 s2 d u l2 r2 nT hd rv
      · exact h.elim
  · exact h.elim
end
end IS
/-! ### a def that is called within a suite, and that raises nothing there -/
namespace L2
open PySem PySem.Spec PyProof.Rows BL
structure FnQ (P : Program) (w : World) (K : PySem.W.Frag) (mg : Str → Option Value) (base : Heap) (CX : CXT) (k : Nat) (f : Addr) (fd : FuncData) (ps : List Str) (sp : Sp) : Prop where
  len : ∀ vs H Q E, sp vs H Q E → vs.length = ps.length
  run : ∀ (A : Around) (outer : List Env) (s : Shared) (H : Hp) (args : Args) (us : List Value) (vs : List V) (Q : VK) (E : XK), L2H.RoomH k A → Env0 P w K mg base A outer s H → BindsTo s fd args (ps.zip us) → Vals vs us → sp vs H Q E →
    codeAny (model P w) A (.call (.ref f) args) (CR CX outer P w H s Q E) s
/-- the context of its body -/
abbrev cxQ (CX : CXT) (P : Program) (w : World) (K : PySem.W.Frag) (mg : Str → Option Value) (base : Heap) (N : List Str) (qual : Str) (scope : Scope) (f : Addr) (cd : Value) (A : Around) (outer : List Env) (s : Shared) (H : Hp) (E : XK) : Cx :=
  { cxOf CX P w K mg base N qual scope f cd A outer s H E with calm := false }
section
variable {P : Program} {w : World} {K : PySem.W.Frag} {mg : Str → Option Value} {base : Heap} {x qual : Str} {params : Arguments} {body : List Stmt} {scope : Scope} {dvs : List V} {kws : List (Str × V)} {f : Addr} {fd : FuncData} {CX : CXT} {N ps : List Str} {k : Nat} {sp : Sp}
theorem inv_startQ {cd : Value} {A : Around} {outer : List Env} {s s1 : Shared} {H : Hp} {E : XK} {us : List Value} {vs : List V} (S : FnScope N ps scope) (e0 : Env0 P w K mg base A outer s H) (hl : vs.length = ps.length) (r : Vals vs us)
    (z : InCallC s s.heap.objs.size (bindL (envOfC qual scope s.heap.objs.size f cd).kindOf (ps.zip us) fun _ => none) (cellsFrom (s.heap.objs.size + 1) scope.names []) (bindC (envOfC qual scope s.heap.objs.size f cd).kindOf (ps.zip us) fun _ => none) s1) :
    Inv (cxQ CX P w K mg base N qual scope f cd A outer s H E) [] (L2.start N vs) H s1 := by
  have I : Inv (cxOf CX P w K mg base N qual scope f cd { A with handled := none } outer s H E) [] (L2.start N vs) H s1 :=
    inv_start S rfl ⟨e0.frames, e0.mod, e0.bs, e0.bsz, e0.funs, e0.frf, e0.hok, e0.bare⟩ hl r z
  exact ⟨⟨I.ok.mod, I.ok.kind, I.ok.glob, I.ok.blt, I.ok.above, I.ok.inj, I.ok.has, I.ok.cab, fun z => Bool.noConfusion (show false = true from z), Around.frames_deeper e0.frames, I.ok.stk, I.ok.exf, I.ok.bs, I.ok.bsz, I.ok.noex, I.ok.exfs, I.ok.funs, I.ok.frf⟩,
    I.os, I.bare, I.base, I.loc, I.cell, I.free, I.freeC, I.pin, I.hok, I.len⟩
theorem FunD.okQ (F : FunD K x qual params body scope dvs kws f fd) (S : FnScope N ps scope) (len : ∀ vs H Q E, sp vs H Q E → vs.length = ps.length)
    (hbody : ∀ (cdv : Value) (A : Around) (outer : List Env) (s : Shared) (H : Hp) (vs : List V) (Q : VK) (E : XK), L2H.RoomH k (A.deeper (envOfC qual scope s.heap.objs.size f cdv)) → sp vs H Q E →
      ∃ t, PSs (cxQ CX P w K mg base N qual scope f cdv A outer s H E) body t ∧ t { nx := fun _ H' => Q .non H', rt := Q } (L2.start N vs) H) : FnQ P w K mg base CX (k + 1) f fd ps sp := by
  obtain ⟨oc, od, dV, kV, doc, pm, an, cdv, ct, osl, rfl, lk, hcd, _, _⟩ := F.ex
  refine ⟨len, fun A outer s H args us vs Q E hr e0 hb r hsp => ?_⟩
  have hl := len _ _ _ _ hsp
  have KX : K.In s.heap := e0.mod.kin.keeps fun b o e => (e0.bs b o e).1
  have nl : s.heap.NoLimit := e0.mod.nolimit.keeps fun b o e => (e0.bs b o e).1
  refine codeAny_call_function hr.depth (KX _ _ lk) rfl S.co S.gen rfl (PySem.W.codeRec_of KX hcd) (hb _ _ _ _ ?_)
  refine wpAny_newFunctionEnv_cells S.kind (fun y hy => ?_) fun env he s1 z => ?_
  · rcases S.par y.1 (List.of_mem_zip (a := y.1) (b := y.2) hy).1 with q | q
    · exact .inl q
    · exact .inr ⟨q, PySem.W.cellsFrom_some _ _ _ (.inl q)⟩
  · subst he
    refine ⟨nl.keeps z.toInCall.keep, codeAny_func ?_⟩
    obtain ⟨t, ht, hq⟩ := hbody cdv A outer s H vs Q E (hr.deeper _) hsp
    refine wpAny_mono (ht.run [] s1 (L2.start N vs) H _ (inv_startQ (CX := CX) S e0 hl r z) hq) (fun fl s' hs => ?_) fun e s' hs => hs
    cases fl with
    | ret u =>
      obtain ⟨v, σ', H', J, rv, q⟩ := hs
      exact ⟨v, H', J.os, J.bare, J.base, J.hok, rv, q⟩
    | next =>
      obtain ⟨σ', H', J, q⟩ := hs
      exact ⟨V.non, H', J.os, J.bare, J.base, J.hok, rfl, q⟩
    | brk =>
      obtain ⟨_, _, _, q⟩ := hs
      exact q.elim
    | cont =>
      obtain ⟨_, _, _, q⟩ := hs
      exact q.elim
/-- .. with the ways to call it -/
structure CalQ (P : Program) (w : World) (K : PySem.W.Frag) (mg : Str → Option Value) (base : Heap) (CX : CXT) (k : Nat) (f : Addr) (ps : List Str) (sp : Sp) : Prop where
  ex : ∃ fd, FnQ P w K mg base CX k f fd ps sp ∧ Binds K fd ps []
  kp : PySem.W.keepIn K (.ref f) = true
end
section
variable {X : Cx} {k : Nat} {f : Addr} {ps : List Str} {sp : Sp} {W : WX} {x : Str} {p pos : Pos} {e : Expr} {es : List Expr} {t : TA}
theorem run_fnQ {pins : List (Addr × Obj)} {σ : St} {H : Hp} {s : Shared} {Q : VK} {us : List Value} {vs : List V} (Ca : CalQ X.prog X.w X.K X.mg X.base (L2.CX X.prog X.w) k f ps sp) (hr : L2H.RoomH k X.A) (tk : Takes X W)
    (I : Inv X pins σ H s) (r : Vals vs us) (h : sp vs H Q (WE W σ)) : wpAny (model X.prog X.w) X.A (call (.ref f) us) (EP X pins σ Q) X.xe s := by
  obtain ⟨fd, F, hb⟩ := Ca.ex
  have b := hb s us I.kIn (by rw [List.append_nil, ← r.length]; exact F.len _ _ _ _ h)
  rw [List.append_nil] at b
  refine wpAny_call (codeAny_mono (F.run X.A X.stack s H ⟨us, []⟩ us vs Q (WE W σ) hr I.env0 b r h) fun r s' hq => ?_)
  cases r with
  | error e => exact passAt tk σ pins H s e s' I hq
  | ok fl =>
    cases fl with
    | ret u => exact I.after hq
    | next => exact hq.elim
    | brk => exact hq.elim
    | cont => exact hq.elim
theorem pe_callQ (Ca : CalQ X.prog X.w X.K X.mg X.base (L2.CX X.prog X.w) k f ps sp) (hr : L2H.RoomH k X.A) (tk : Takes X W) (hg : Gl X x) (hm : X.mg x = some (.ref f))
    (ha : PA X (e :: es) t) (hdb : (x == ("__debug__" : Str)) = false := by decide +kernel) (he : starEach (e :: es) X.env = (false, eval e X.env) :: starEach es X.env := by rfl) (hpl : (backTo pos (starEach es X.env)).any (·.1) = false := by rfl) :
    PE X (.Call (.Name x p) (e :: es) [] pos) (tCallA sp W t) := by
  refine ⟨fun pins s σ H Q I h => ?_⟩
  refine wpAny_Call_Name_kw (ld_glob I hg hm ?_ hdb)
  refine PySem.W.callWith_K (h₀ := X.base) I.ok.mod.kin Ca.kp (thn (ha.run pos pins s σ H _ I h) fun us s1 ⟨vs, H1, I1, r, q⟩ => ⟨I1.kIn, ?_⟩) he hpl
  exact run_fnQ Ca hr tk I1 r q
end
end L2
namespace IS
open PySem PySem.Spec PyProof.Rows L2 BL
section
variable {P : Program} {w : World} {K : PySem.W.Frag} {mg : Str → Option Value} {base : Heap} {k : Nat} {f : Addr} {ps : List Str}
theorem CalQ.ia {xn qual : Str} {params : Arguments} {body : List Stmt} {scope : Scope} {fd : FuncData} {N : List Str} {Pr : IA.Prog} {lim j : Nat} {name : String} {d : IA.FDef} (F : FunD K xn qual params body scope [] [] f fd) (b : Binds K fd ps []) (S : FnScope N ps scope)
    (hP : Pr name = some d) (h1 : d.np = ps.length) (h2 : d.n = N.length) (h3 : d.np ≤ d.n)
    (hb : ∀ (cdv : Value) (A : Around) (outer : List Env) (s : Shared) (H : Hp) (E : XK), L2H.RoomH k (A.deeper (envOfC qual scope s.heap.objs.size f cdv)) →
      Takes (cxQ (L2.CX P w) P w K mg base N qual scope f cdv A outer s H E) (fun cls d _ H => E cls d H) →
      SSs ⟨IA.run Pr lim j, lim⟩ (cxQ (L2.CX P w) P w K mg base N qual scope f cdv A outer s H E) none (fun cls d _ H => E cls d H) body d.body) :
    CalQ P w K mg base (L2.CX P w) (k + 1) f ps (SpF K (IA.run Pr lim (j + 1) name)) := by
  refine ⟨⟨fd, FunD.okQ F S (fun vs H Q E h => (spF_len hP h).trans h1) fun cdv A outer s H vs Q E hr h => ?_, b⟩, F.kp⟩
  obtain ⟨t, p, f⟩ := (hb cdv A outer s H E hr (takes_of rfl rfl rfl rfl)).ex
  exact ⟨t, p, spF_start hP h2 h3 h f⟩
theorem CalQ.ia0 {xn qual : Str} {params : Arguments} {body : List Stmt} {scope : Scope} {fd : FuncData} {Pr : IA.Prog} {lim : Nat} {name : String} (F : FunD K xn qual params body scope [] [] f fd) (b : Binds K fd ps []) : CalQ P w K mg base (L2.CX P w) 0 f ps (SpF K (IA.run Pr lim 0 name)) :=
  ⟨⟨fd, ⟨fun vs H Q E ⟨s, h, as, _, _, _, q⟩ => q.elim, fun A outer s H args us vs Q E _ _ _ _ ⟨s', h, as, _, _, _, q⟩ => q.elim⟩, b⟩, F.kp⟩
end
section
variable {Γ : IA.Env} {X : Cx} {xc : XC} {W : WX} {e : Expr} {es : List Expr} {er : IA.Es} {s : Sit} {σ : L2.St} {st : IA.St} {Q : VK} {x : Str} {p pos : Pos} {k : Nat} {f : Addr} {ps : List Str} {g : String}
/-- the heap's relation does not ask for the suite -/
theorem HRel.xcs {K : PySem.W.Frag} {xc xc' : XC} {s : Sit} {h : IA.AHeap} (r : HRel K xc' s h) : HRel K xc s h := ⟨r.mt, r.ex, r.rex, r.inj, r.nxt, fun n c e => by
  obtain ⟨b, h1, h2, h3⟩ := r.cell n c e
  refine ⟨b, h1, h2, ?_⟩
  cases c with
  | lst xs => obtain ⟨us, h, q⟩ := h3; exact ⟨us, h, RVs.xcs _ _ q⟩
  | ins C fs => obtain ⟨dx, us, h, q⟩ := h3; exact ⟨dx, us, h, RFs.xcs _ _ q⟩
  | dct fs => obtain ⟨us, h, q, nd⟩ := h3; exact ⟨us, h, RFs.xcs _ _ q, nd⟩⟩
/-- a call within a suite, read: nothing may be raised -/
theorem call_readQ {r : List IA.Val → IA.AHeap → IA.Res IA.AHeap IA.Val} {as : List IA.Val} {us : List V} {E : XK} (rel : Rel X.K xc s σ st) (ra : RVs X.K xc s as us)
    (h : Post X.K xc s σ W (NE X.K xc σ Q) (IA.lift st (r as st.h))) (hE : ∀ cls d H, E cls d H = W cls d σ H) : SpF X.K r us s.H Q E := by
  refine ⟨s.inn, st.h, as, rfl, (HRel.xcs rel.hp).inn, RVs.xcs _ _ (RVs.mono rel.hp.mt (Le.inn s) _ _ ra), ?_⟩
  cases e : r as st.h with
  | ok v h' =>
    rw [e] at h
    intro s1 u l q rv
    obtain ⟨s', e1, L, LV, r'⟩ := rel.after l (HRel.xcs q)
    rw [← e1]
    exact h s' L r' u _ ⟨rfl, RV.xcs _ _ (RV.monoV LV _ _ rv)⟩
  | exc C v h' =>
    rw [e] at h
    intro s1 d u l q nT hd rv
    obtain ⟨s', e1, L, LV, r'⟩ := rel.after l (HRel.xcs q)
    rw [hE, ← e1]
    refine h s' d u L r' (fun z => (LV.thr d z).elim nT fun z => by (rw [z] at hd; cases hd)) (LV.keep d _ nT hd) (RV.xcs _ _ (RV.monoV LV _ _ rv))
  | stuck => rw [e] at h; exact h
theorem se_callQ (Ca : CalQ X.prog X.w X.K X.mg X.base (L2.CX X.prog X.w) k f ps (SpF X.K (Γ.call g))) (hr : L2H.RoomH k X.A) (tk : Takes X W) (hg : Gl X x) (hm : X.mg x = some (.ref f)) (ha : SV Γ X xc W (e :: es) er)
    (hdb : (x == ("__debug__" : Str)) = false := by decide +kernel) (he : starEach (e :: es) X.env = (false, eval e X.env) :: starEach es X.env := by rfl) (hpl : (backTo pos (starEach es X.env)).any (·.1) = false := by rfl) :
    SE Γ X xc W (.Call (.Name x p) (e :: es) [] pos) (.call g er) := by
  obtain ⟨t, pt, fr⟩ := ha.ex
  refine ⟨_, pe_callQ Ca hr tk hg hm pt hdb he hpl, fun s σ st r Q h => ?_⟩
  simp only [IA.ev] at h
  exact fr s σ st r _ (Post.bind h fun vs st1 s1 l1 r1 q1 us rs => call_readQ r1 rs q1 fun _ _ _ => rfl)
theorem roomQ {k : Nat} {A : Around} {h : Option Value} (r : Room k A) : L2H.RoomH k (A.mark h) := ⟨r.dp, r.un⟩
/-- a statement that the run never comes to -/
theorem ss_dead {st : Stmt} : SS Γ X xc W st (.asg (.tup .nil) (.c .non)) :=
  ⟨fun _ _ _ => False, ⟨fun _ _ _ _ _ _ h => h.elim⟩, fun s σ c r D h => by
    simp only [IA.exec, IA.ev, IA.Res.bind, IA.asg] at h
    exact h.elim⟩
end
/-! ### what a suite asks of its exception -/
/-- facts of an own exception class -/
structure Xc (K : PySem.W.Frag) (D : Addr) (fl : Str) : Prop where
  xf : XfC K D
  no : PySem.W.findIn K (.ref D) fl = some none
  cl : (PySem.W.clsIn K D).isSome = true
  ha : PySem.W.findIn K (.ref D) "__class__" = some (some (.builtin "object.__class__"))
  hn : PySem.W.specialIn K (.builtin "object.__class__") "__get__" = some (some (.builtin "getset_descriptor.__get__"))
  ht : PySem.W.takesIn K (.builtin "object.__class__") = some true
  hm : PySem.W.mroIn K D (.type "object") = some true
def Xcs (K : PySem.W.Frag) (fl : Str) (xs : List String) : Prop := ∀ D ∈ xs, Xc K (He.ga K (Str.ofString D)) fl ∧ fl = Str.ofString (fieldX D)
theorem xcs_nil {K : PySem.W.Frag} {fl : Str} : Xcs K fl [] := fun _ h => nomatch h
theorem xcs_cons {K : PySem.W.Frag} {fl : Str} {D : String} {xs : List String} (h1 : Xc K (He.ga K (Str.ofString D)) fl) (h : Xcs K fl xs) (hf : fl = Str.ofString (fieldX D) := by decide) : Xcs K fl (D :: xs) := fun E hE => by
  rcases List.mem_cons.mp hE with rfl | hE
  · exact ⟨h1, hf⟩
  · exact h E hE
def Kits (K : PySem.W.Frag) (C : String) (xs : List String) : Prop := ∀ D ∈ xs, PySem.W.kitOne K (.ref (He.ga K (Str.ofString D))) (.ref (He.ga K (Str.ofString C))) = some (IA.baseC D C)
theorem kits_nil {K : PySem.W.Frag} {C : String} : Kits K C [] := fun _ h => nomatch h
theorem kits_cons {K : PySem.W.Frag} {C D : String} {xs : List String} {b : Bool} (h1 : PySem.W.kitOne K (.ref (He.ga K (Str.ofString D))) (.ref (He.ga K (Str.ofString C))) = some b) (h : Kits K C xs) (hb : IA.baseC D C = b := by decide) : Kits K C (D :: xs) := fun E hE => by
  rcases List.mem_cons.mp hE with rfl | hE
  · rw [hb]; exact h1
  · exact h E hE
section
variable {Γ : IA.Env} {X : Cx} {W : WX} {i : Nat} {e : Expr} {a d : Addr} {oe : Obj} {D : String} {pn : List (Addr × Obj)} {n : Str} {p pos : Pos}
theorem se_xat (T : Xc X.K (He.ga X.K (Str.ofString D)) n) (hn : n = Str.ofString (fieldX D)) (hz : Zc (.ref (He.ga X.K (Str.ofString D))) (some d) oe) (hf : ∃ vs, oe.data = .fields vs) (hv : PE (X.suite a ((a, oe) :: pn)) e (tVar i))
    (hb : attributeBase e n X.env (eval e X.env) = eval e X.env := by rfl) : SE Γ (X.suite a ((a, oe) :: pn)) (some (a, d, D)) W (.Attribute e n pos) (.xat i) := by
  refine ⟨_, pe_xf T.xf T.no hz hf hv hb, fun s σ st r Q h => ?_⟩
  simp only [IA.ev] at h
  obtain ⟨o, eo, h⟩ := Post.get h
  split at h
  · rename_i C v
    obtain ⟨a', d', u, e1, e2, e3, e4, e5⟩ := r.exs i C v eo
    cases e1
    refine ⟨_, e2, rfl, rfl, d, [(Str.ofString (fieldX D), u)], u, rfl, e4, by rw [hn]; exact List.lookup_cons_self, ?_⟩
    exact Post.ok (N := NE X.K (some (a, d, D)) σ Q) h r u _ ⟨rfl, e5⟩
  · exact h.elim
def rIsX (K : PySem.W.Frag) (D a d : Addr) : List V → Hp → VK → Prop := fun xs H Q => ∃ (c : V) (cv : Value) (b : Bool) (fs : List (Str × V)), xs = [.ref a, c] ∧ (∀ u, RelV c u → u = cv) ∧ PySem.W.kitOne K (.ref D) cv = some b ∧ H d = some (.xd fs) ∧ Q (.bl b) H
theorem call_isX {C d : Addr} {fl : Str} (T : Xc X.K C fl) (hz : Zc (.ref C) (some d) oe) (hf : ∃ vs, oe.data = .fields vs) : CallR (X.suite a ((a, oe) :: pn)) (.builtin "isinstance") (rIsX X.K C a d) := by
  intro pins s σ H xs us Q I r h
  obtain ⟨c, cv, b, fs, rfl, hcv, e, ea, q⟩ := h
  cases r with
  | cons rx rr =>
    cases rr with
    | cons rt rr =>
      cases rr
      cases rx
      have ec := hcv _ rt
      subst ec
      obtain ⟨hget, _⟩ := I.pin (a, oe) (List.mem_append.mpr (.inl List.mem_cons_self))
      obtain ⟨vs, hv⟩ := hf
      obtain ⟨mA, hns, hr⟩ := (show ObjOk X.prog X.w H s.heap d (.xd fs) from I.hok d _ ea)
      obtain ⟨od, ho, hl⟩ := lookIn_ns hns
      have J : PySem.W.InstAt s.heap a oe C (some od) := ⟨hget, hz.1, by unfold PySem.W.notCls; rw [hv] <;> rfl, by rw [hz.2]; exact ho⟩
      exact PySem.W.kia_one (PySem.W.kitx_exc T.cl T.xf.ga T.xf.gg T.xf.exC T.ha T.hn T.ht T.hm) I.kIn J e (fun z => nomatch z) fun tk => ⟨.bl b, H, I.kept (t' := tk) fun _ _ z => z, rfl, q⟩
theorem se_xisi {x2 : Str} {p2 : Pos} {C : String} {fl : Str} (T : Xc X.K (He.ga X.K (Str.ofString D)) fl) (hz : Zc (.ref (He.ga X.K (Str.ofString D))) (some d) oe) (hf : ∃ vs, oe.data = .fields vs)
    (hk : PySem.W.kitOne X.K (.ref (He.ga X.K (Str.ofString D))) (.ref (He.ga X.K (Str.ofString C))) = some (IA.baseC D C)) (hg : Gl X "isinstance") (hm : X.mg "isinstance" = none) (hm2 : X.mg x2 = some (.ref (He.ga X.K (Str.ofString C))))
    (hv : PE (X.suite a ((a, oe) :: pn)) e (tVar i)) (hg2 : Gl X x2 := by rfl) (hd2 : (x2 == ("__debug__" : Str)) = false := by decide)
    (h0 : starEach (e :: [.Name x2 p2]) X.env = (false, eval e X.env) :: starEach [.Name x2 p2] X.env := by rfl) (h1 : starEach (.Name x2 p2 :: []) X.env = (false, eval (.Name x2 p2) X.env) :: starEach [] X.env := by rfl) (hpl : (backTo pos (starEach [.Name x2 p2] X.env)).any (·.1) = false := by rfl) :
    SE Γ (X.suite a ((a, oe) :: pn)) (some (a, d, D)) W (.Call (.Name "isinstance" p) [e, .Name x2 p2] [] pos) (.xisi i [C]) := by
  refine ⟨_, pe_callB (X := X.suite a ((a, oe) :: pn)) (call_isX T hz hf) hg hm (by decide +kernel) (pa_cons hv (pa_cons (pe_glob (v := .ref (He.ga X.K (Str.ofString C))) hg2 hm2 rfl hd2) pa_nil h1) h0) (by decide) (by decide) h0 hpl, fun s σ st r Q h => ?_⟩
  simp only [IA.ev] at h
  obtain ⟨o, eo, h⟩ := Post.get h
  split at h
  · rename_i E v
    obtain ⟨a', d', u, e1, e2, e3, e4, e5⟩ := r.exs i E v eo
    cases e1
    simp only [List.any_cons, List.any_nil, Bool.or_false] at h
    exact ⟨_, e2, .ref (He.ga X.K (Str.ofString C)), .ref (He.ga X.K (Str.ofString C)), _, _, rfl, fun u q => q, hk, e4, finB h r⟩
  · exact h.elim
end
end IS
namespace BE
open PySem PySem.W PySem.Spec PyProof.Rows L2 He
def xcB (x fl : Str) (K : Frag) : Bool := xfB K (ga K x) && (eqO (findIn K (.ref (ga K x)) fl) (some none) && ((clsIn K (ga K x)).isSome && (eqO (findIn K (.ref (ga K x)) "__class__") (some (some (.builtin "object.__class__"))) &&
  (eqO (specialIn K (.builtin "object.__class__") "__get__") (some (some (.builtin "getset_descriptor.__get__"))) && (decide (takesIn K (.builtin "object.__class__") = some true) && decide (mroIn K (ga K x) (.type "object") = some true))))))
theorem xc_ok {K : Frag} {x fl : Str} (h : xcB x fl K = true) : IS.Xc K (ga K x) fl := by
  unfold xcB at h
  obtain ⟨h1, h⟩ := ba h
  obtain ⟨h2, h⟩ := ba h
  obtain ⟨h3, h⟩ := ba h
  obtain ⟨h4, h⟩ := ba h
  obtain ⟨h5, h⟩ := ba h
  obtain ⟨h6, h7⟩ := ba h
  exact ⟨xfB_ok h1, eqO_ok h2, h3, eqO_ok h4, eqO_ok h5, of_decide_eq_true h6, of_decide_eq_true h7⟩
def exB (x y : Str) (b : Bool) (K : Frag) : Bool := decide (exmOne K (.ref (ga K x)) (.ref (ga K y)) = some b)
theorem ex_ok {K : Frag} {x y : Str} {b : Bool} (h : exB x y b K = true) : exmOne K (.ref (ga K x)) (.ref (ga K y)) = some b := of_decide_eq_true h
end BE
namespace IS
open PySem PySem.Spec PyProof.Rows L2
theorem units64Q {k : Nat} {A : Around} (r : L2H.RoomH k A) : A.units + 64 < cLine := by have := r.un; omega
theorem units65Q {k : Nat} {A : Around} (r : L2H.RoomH k A) : A.units + 65 < cLine := by have := r.un; omega
end IS

set_option Elab.async false
set_option linter.all false
set_option maxRecDepth 100000
set_option maxHeartbeats 2000000
/-! ## Dicts: d["k"], d["k"] = v, {"k": v, ..} (own text) -/
namespace IS
open PySem PySem.Spec PyProof.Rows L2
theorem u1 {n c : Nat} (h : n + 64 < c) : n + 1 < c := by omega
section
variable {Γ : IA.Env} {X : Cx} {xc : XC} {W : WX} {a b e : Expr} {ea eb : IA.E} {pos : Pos}
/-! ### d["k"] = v -/
/-! ### {"k": v, ..} -/
variable {ks : List String} {kx : List (Option Expr)} {es : List Expr} {er : IA.Es}
theorem RFs.zip {K : PySem.W.Frag} {s : Sit} : ∀ {ks : List String} {vs : List IA.Val} {us : List V}, RVs K xc s vs us → RFs K xc s (ks.zip vs) ((ks.map Str.ofString).zip us)
  | [], _, _, _ => by simp [RFs]
  | _ :: _, [], _, h => by
    simp only [RVs] at h
    subst h
    simp [RFs]
  | k :: ks, v :: vs, _, h => by
    simp only [RVs] at h
    obtain ⟨u, us, rfl, h1, h2⟩ := h
    simp only [List.zip_cons_cons, List.map_cons, RFs]
    exact ⟨u, _, rfl, h1, RFs.zip h2⟩
/-- the dict that is being filled is not there yet -/
def Sit.sub (s : Sit) (p : Addr) : Sit := { s with H := fun b => if b = p then none else s.H b }
theorem sub_at {s : Sit} {p b : Addr} {o u : HO} (hp : s.H p = some u) (hu : o ≠ u) (e : s.H b = some o) : (s.sub p).H b = some o := by
  have hb : b ≠ p := fun z => by
    rw [z, hp] at e
    cases e
    exact hu rfl
  show (if b = p then none else s.H b) = some o
  rw [if_neg hb]
  exact e
section
variable {K : PySem.W.Frag} {s : Sit} {p : Addr}
theorem SqT.sub {b : Addr} {us : List V} (hp : s.H p = some (.dK [])) (h : SqT K s.H b us) : SqT K (s.sub p).H b us := by
  rcases h with (h | ⟨o, h⟩) | h
  · exact .inl (.inl (sub_at hp (by intro z; cases z) h))
  · exact .inl (.inr ⟨o, sub_at hp (by intro z; cases z) h⟩)
  · exact .inr h
mutual
theorem RV.sub (hp : s.H p = some (.dK [])) : ∀ (x : IA.Val) (v : V), RV K xc s x v → RV K xc (s.sub p) x v
  | .non, _, h => by simpa only [RV] using h
  | .bl _, _, h => by simpa only [RV] using h
  | .int _, _, h => by simpa only [RV] using h
  | .str _, _, h => by simpa only [RV] using h
  | .tup xs, _, h => by
    simp only [RV] at h ⊢
    obtain ⟨a, us, e, q, r⟩ := h
    exact ⟨a, us, e, SqT.sub hp q, RVs.sub hp xs us r⟩
  | .lst xs, _, h => by
    simp only [RV] at h ⊢
    obtain ⟨a, us, e, q, r⟩ := h
    exact ⟨a, us, e, ⟨q.1, sub_at hp (by intro z; cases z) q.2⟩, RVs.sub hp xs us r⟩
  | .obj C fs, _, h => by
    simp only [RV] at h ⊢
    obtain ⟨a, dx, us, e, n, q, r⟩ := h
    exact ⟨a, dx, us, e, n, sub_at hp (by intro z; cases z) q, RFs.sub hp fs us r⟩
  | .ref n, _, h => by
    simp only [RV] at h ⊢
    exact h
  | .scr xs, _, h => by
    simp only [RV] at h ⊢
    obtain ⟨a, us, e, q, r⟩ := h
    refine ⟨a, us, e, ?_, RVs.sub hp xs us r⟩
    rcases q with ⟨o, q⟩ | q
    · exact .inl ⟨o, sub_at hp (by intro z; cases z) q⟩
    · exact .inr q
theorem RVs.sub (hp : s.H p = some (.dK [])) : ∀ (x : List IA.Val) (v : List V), RVs K xc s x v → RVs K xc (s.sub p) x v
  | [], _, h => by simpa only [RVs] using h
  | x :: xs, _, h => by
    simp only [RVs] at h ⊢
    obtain ⟨v, vs, e, r, t⟩ := h
    exact ⟨v, vs, e, RV.sub hp x v r, RVs.sub hp xs vs t⟩
theorem RFs.sub (hp : s.H p = some (.dK [])) : ∀ (x : List (String × IA.Val)) (v : List (Str × V)), RFs K xc s x v → RFs K xc (s.sub p) x v
  | [], _, h => by simpa only [RFs] using h
  | (f, x) :: xs, _, h => by
    simp only [RFs] at h ⊢
    obtain ⟨v, vs, e, r, t⟩ := h
    exact ⟨v, vs, e, RV.sub hp x v r, RFs.sub hp xs vs t⟩
end
theorem Rel.sub {σ : L2.St} {st : IA.St} (r : Rel K xc s σ st) (hp : s.H p = some (.dK [])) (nT : ¬ s.T p) (nR : ∀ n, s.R n ≠ some p) : Rel K xc (s.sub p) σ st := by
  have hb : ∀ b, b ≠ p → (s.sub p).H b = s.H b := fun b h => if_neg h
  refine ⟨⟨r.hp.mt, fun b t => ?_, fun n a e => ?_, r.hp.inj, r.hp.nxt, fun n c e => ?_⟩, fun i C x e => ?_, r.len, fun i x e => ?_, fun i xs e => ?_, r.oinj, r.ohp⟩
  · obtain ⟨o, e⟩ := r.hp.ex b t
    exact ⟨o, (hb b fun z => nT (z ▸ t)).trans e⟩
  · obtain ⟨o, e2⟩ := r.hp.rex n a e
    exact ⟨o, (hb a fun z => nR n (z ▸ e)).trans e2⟩
  · obtain ⟨a, h1, h2, h3⟩ := r.hp.cell n c e
    have ha := hb a fun z => nR n (z ▸ h1)
    refine ⟨a, h1, h2, ?_⟩
    cases c with
    | lst xs => obtain ⟨us, h, q⟩ := h3; exact ⟨us, ha.trans h, RVs.sub hp _ _ q⟩
    | ins C fs => obtain ⟨dx, us, h, q⟩ := h3; exact ⟨dx, us, ha.trans h, RFs.sub hp _ _ q⟩
    | dct fs => obtain ⟨us, h, q, nd⟩ := h3; exact ⟨us, ha.trans h, RFs.sub hp _ _ q, nd⟩
  · obtain ⟨a, d, u, h1, h2, h3, h4, h5⟩ := r.exs i C x e
    exact ⟨a, d, u, h1, h2, h3, sub_at hp (by intro z; cases z) h4, RV.sub hp _ _ h5⟩
  · obtain ⟨u, h1, h2⟩ := r.slot i x e
    exact ⟨u, h1, RV.sub hp _ _ h2⟩
  · obtain ⟨a, us, h1, h2, h3, h4⟩ := r.own i xs e
    exact ⟨a, us, h1, h2, sub_at hp (by intro z; cases z) h3, RVs.sub hp _ _ h4⟩
end
end
end IS

set_option Elab.async false
set_option linter.all false
set_option maxRecDepth 100000
set_option maxHeartbeats 2000000
/-! ## Properties (own text) -/
namespace IS
open PySem PySem.Spec PyProof.Rows L2 BL
section
variable {Γ : IA.Env} {X : Cx} {W : WX} {o : Expr} {eo : IA.E} {pos : Pos} {k : Nat} {ps : List Str} {p g : Addr} {m : Str}
theorem Post.calm {β : Type} {K : PySem.W.Frag} {xc : XC} {s : Sit} {σ : L2.St} {W W' : WX} {N : Sit → β → IA.St → Prop} {r : IA.Res IA.St β} (h : Post K xc s σ W N r.quiet) : Post K xc s σ W' N r := by
  cases r with
  | ok b st => exact h
  | exc C v st => exact h.elim
  | stuck => exact h
end
end IS

set_option Elab.async false
set_option linter.all false
set_option maxRecDepth 100000
/-! ## What the small machine reaches, step by step: no model in sight (own text) -/
namespace IA
def W {S α : Type} (r : Res S α) (Φ : α → S → Prop) (Ψ : String → Val → S → Prop) : Prop :=
  match r with
  | .ok a s => Φ a s
  | .exc C v s => Ψ C v s
  | .stuck => False
def kO {α : Type} (o : Option α) (Φ : α → Prop) : Prop :=
  match o with
  | some a => Φ a
  | none => False
theorem kO_some {α : Type} {a : α} {Φ : α → Prop} : kO (some a) Φ = Φ a := rfl
section
variable {S α β : Type} {Φ Φ' : α → S → Prop} {Ψ Ψ' : String → Val → S → Prop} {Θ : β → S → Prop}
theorem W_ok {a : α} {s : S} : W (.ok a s) Φ Ψ = Φ a s := rfl
theorem W_bind {r : Res S α} {f : α → S → Res S β} : W (r.bind f) Θ Ψ = W r (fun a s => W (f a s) Θ Ψ) Ψ := by cases r <;> rfl
theorem W_get {o : Option α} {f : α → Res S β} : W (Res.get o f) Θ Ψ = kO o fun a => W (f a) Θ Ψ := by cases o <;> rfl
theorem W_chk {c : Prop} [Decidable c] {r : Res S α} : W (Res.chk c r) Φ Ψ = (c ∧ W r Φ Ψ) := by
  unfold Res.chk
  split
  · simp [*]
  · simp [*, W]
theorem W_quiet {r : Res S α} : W r.quiet Φ Ψ = W r Φ (fun _ _ _ => False) := by cases r <;> rfl
theorem W.mono {r : Res S α} (h : W r Φ Ψ) (h1 : ∀ a s, Φ a s → Φ' a s) (h2 : ∀ C v s, Ψ C v s → Ψ' C v s) : W r Φ' Ψ' := by
  cases r with
  | ok a s => exact h1 a s h
  | exc C v s => exact h2 C v s h
  | stuck => exact h
end
section
variable (P : Prog) (lim k : Nat)
def G : Env := ⟨run P lim k, lim⟩
abbrev XK := String → Val → St → Prop
/-- the machine's parts, by names -/
def WE (Γ : Env) (e : E) (s : St) (Φ : EV → St → Prop) (Ψ : XK) : Prop := W (ev Γ e s) Φ Ψ
def WT (Γ : Env) (e : E) (s : St) (Φ : Bool → St → Prop) (Ψ : XK) : Prop := W (tst Γ e s) Φ Ψ
def WB (Γ : Env) (e : Es) (s : St) (Φ : List EV → St → Prop) (Ψ : XK) : Prop := W (evs Γ e s) Φ Ψ
def WV (Γ : Env) (e : Es) (s : St) (Φ : List Val → St → Prop) (Ψ : XK) : Prop := W (evv Γ e s) Φ Ψ
def WI (Γ : Env) (e : It) (s : St) (Φ : Src → St → Prop) (Ψ : XK) : Prop := W (evi Γ e s) Φ Ψ
def WG (Γ : Env) (t : Tg) (x : EV) (s : St) (Φ : St → Prop) (Ψ : XK) : Prop := W (asg Γ t x s) (fun _ s => Φ s) Ψ
def WGs (Γ : Env) (t : Tgs) (x : List Val) (s : St) (Φ : St → Prop) (Ψ : XK) : Prop := W (asgs Γ t x s) (fun _ s => Φ s) Ψ
def WX (Γ : Env) (c : S) (s : St) (Φ : Flow → St → Prop) (Ψ : XK) : Prop := W (exec Γ c s) Φ Ψ
def WS (Γ : Env) (c : Ss) (s : St) (Φ : Flow → St → Prop) (Ψ : XK) : Prop := W (execs Γ c s) Φ Ψ
def WR (f : String) (vs : List Val) (h : AHeap) (Φ : Val → AHeap → Prop) (Ψ : String → Val → AHeap → Prop) : Prop := W (run P lim k f vs h) Φ Ψ
end
def W2 (o : Op2) (x y : EV) (s : St) (Φ : EV → St → Prop) (Ψ : XK) : Prop := W (op2 o x y s) Φ Ψ
def WBi (b : Bi) (xs : List EV) (s : St) (Φ : EV → St → Prop) (Ψ : XK) : Prop := W (bi b xs s) Φ Ψ
def WK (x : EV) (s : St) (Φ : Val → St → Prop) : Prop := W (x.keep s fun v s => .ok v s) Φ (fun _ _ _ => False)
/-! ### continuations, by names -/
section
variable (P : Prog) (lim k : Nat) (Γ : Env) (Φ : EV → St → Prop) (Ψ : XK) (ΦT : Bool → St → Prop) (ΦB : List EV → St → Prop) (ΦV : List Val → St → Prop) (ΦI : Src → St → Prop) (ΦG : St → Prop) (ΦX : Flow → St → Prop) (ΦR : Val → AHeap → Prop) (ΨR : String → Val → AHeap → Prop)
def kVl (s : St) (v : Val) : Prop := Φ (.val v) s
def kBl (s : St) (k : Bool) : Prop := Φ (.val (.bl k)) s
def kVar (i : Nat) (s : St) : Option (Option SV) → Prop
  | some (some (.v x)) => Φ (.val x) s
  | some (some (.own _)) => Φ (.own i) s
  | _ => False
def kOp2 (o : Op2) (x y : EV) (s : St) : Prop := W2 o x y s Φ Ψ
def kOp1 (o : Op2) (b : E) (x : EV) (s : St) : Prop := WE Γ b s (kOp2 Φ Ψ o x) Ψ
def kCh3 (o2 : Op2) (c : E) (y k : EV) (s : St) : Prop :=
  match k with
  | .val (.bl true) => WE Γ c s (kOp2 Φ Ψ o2 y) Ψ
  | .val (.bl false) => Φ (.val (.bl false)) s
  | _ => False
def kCh2 (o1 o2 : Op2) (c : E) (x y : EV) (s : St) : Prop := W2 o1 x y s (kCh3 Γ Φ Ψ o2 c y) Ψ
def kCh1 (o1 o2 : Op2) (b c : E) (x : EV) (s : St) : Prop := WE Γ b s (kCh2 Γ Φ Ψ o1 o2 c x) Ψ
def kIsn (x : EV) (s : St) : Prop := kO (isNon x) (kBl Φ s)
def kBlN (s : St) (k : Bool) : Prop := Φ (.val (.bl (!k))) s
def kIsnt (x : EV) (s : St) : Prop := kO (isNon x) (kBlN Φ s)
def kAnd (b : E) (x : EV) (s : St) : Prop :=
  match x with
  | .val (.bl true) => WE Γ b s Φ Ψ
  | .val (.bl false) => Φ (.val (.bl false)) s
  | _ => False
def kOr (b : E) (x : EV) (s : St) : Prop :=
  match x with
  | .val (.bl true) => Φ (.val (.bl true)) s
  | .val (.bl false) => WE Γ b s Φ Ψ
  | _ => False
def kNot (x : EV) (s : St) : Prop :=
  match x with
  | .val (.bl k) => Φ (.val (.bl (!k))) s
  | _ => False
def kIte (a b : E) (k : Bool) (s : St) : Prop := if k then WE Γ a s Φ Ψ else WE Γ b s Φ Ψ
def kNeg (x : EV) (s : St) : Prop :=
  match x with
  | .val (.int i) => Φ (.val (.int (-i))) s
  | _ => False
def kTup (vs : List Val) (s : St) : Prop := vs.length ≤ szL ∧ Φ (.val (.tup vs)) s
def kLst (vs : List Val) (s : St) : Prop := vs.length ≤ szL ∧ Φ (.new vs) s
def kIx2 (x y : EV) (s : St) : Prop :=
  match y with
  | .val j => kO (ixE x j s) (kVl Φ s)
  | _ => False
def kIx1 (i : E) (x : EV) (s : St) : Prop := WE Γ i s (kIx2 Φ x) Ψ
def kE (s : St) (r : EV) : Prop := Φ r s
def kSl3 (hi : Option Unit) (x : EV) (p : Option Int) (z : EV) (s : St) : Prop :=
  match z with
  | .val j => kO (optI hi j) fun q => kO (slE x p q s) (kE Φ s)
  | _ => False
def kSl2 (lo hi : Option Unit) (h : E) (x y : EV) (s : St) : Prop :=
  match y with
  | .val i => kO (optI lo i) fun p => WE Γ h s (kSl3 Φ hi x p) Ψ
  | _ => False
def kSl1 (lo hi : Option Unit) (l h : E) (x : EV) (s : St) : Prop := WE Γ l s (kSl2 Γ Φ Ψ lo hi h x) Ψ
def kRevL (s : St) (xs : List Val) : Prop := Φ (.new xs.reverse) s
def kRev (x : EV) (s : St) : Prop := kO (x.list s) (kRevL Φ s)
def kFld (f : String) (cs : List String) (x : EV) (s : St) : Prop := kO (fldE x f cs s) (kVl Φ s)
def kXat (s : St) : Option (Option SV) → Prop
  | some (some (.exc _ v)) => Φ (.val v) s
  | _ => False
def kXisi (cs : List String) (s : St) : Option (Option SV) → Prop
  | some (some (.exc C _)) => Φ (.val (.bl (cs.any fun D => baseC C D))) s
  | _ => False
def kBi (b : Bi) (xs : List EV) (s : St) : Prop := WBi b xs s Φ Ψ
def kBm1 (b : Bi) (x : EV) (xs : List EV) (s : St) : Prop := WBi b (x :: xs) s Φ Ψ
def kBm (T : Rk) (b : Bi) (es : Es) (x : EV) (s : St) : Prop := recvOk T x s = true ∧ WB Γ es s (kBm1 Φ Ψ b x) Ψ
def kIsi (ts : List Ty) (x : EV) (s : St) : Prop := kO (x.peek s) fun v => kO (ts.mapM fun t => ofT v t) fun bs => Φ (.val (.bl (bs.any id))) s
def kRet (σ : List (Option SV)) (v : Val) (h : AHeap) : Prop := Φ (.val v) ⟨σ, h⟩
def kExc (σ : List (Option SV)) (C : String) (v : Val) (h : AHeap) : Prop := Ψ C v ⟨σ, h⟩
def kCall (f : String) (vs : List Val) (s : St) : Prop := W (Γ.call f vs s.h) (kRet Φ s.σ) (kExc Ψ s.σ)
def kEqo2 (C : String) (x y : EV) (s : St) : Prop := W (eqoE Γ C x y s) Φ Ψ
def kEqo1 (C : String) (b : E) (x : EV) (s : St) : Prop := WE Γ b s (kEqo2 Γ Φ Ψ C x) Ψ
def kMk1 (C : String) (n : Nat) (σ : List (Option SV)) (v : Val) (h : AHeap) : Prop :=
  match v with
  | .non => if immC C then (match h.c n with
      | some (.ins D fs) => D = C ∧ Φ (.val (.obj C fs)) ⟨σ, h.del n⟩
      | _ => False)
    else Φ (.val (.ref n)) ⟨σ, h⟩
  | _ => False
def kMk (C : String) (vs : List Val) (s : St) : Prop := W (Γ.call (C ++ ".__init__") (.ref s.h.next :: vs) (s.h.new (.ins C []))) (kMk1 Φ C s.h.next s.σ) (kExc Ψ s.σ)
def kMeth1 (C m : String) (x : EV) (vs : List Val) (s : St) : Prop :=
  match x with
  | .val v => W (Γ.call (C ++ "." ++ m) (v :: vs) s.h) (kRet Φ s.σ) (kExc Ψ s.σ)
  | _ => False
def kMeth (C m : String) (es : Es) (x : EV) (s : St) : Prop := isC C m x s = true ∧ WV Γ es s (kMeth1 Γ Φ Ψ C m x) Ψ
def kHeap (x : EV) (s : St) : Prop :=
  match x with
  | .new xs => Φ (.val (.ref s.h.next)) ⟨s.σ, s.h.new (.lst xs)⟩
  | _ => False
/-! tests -/
def kT (s : St) (k : Bool) : Prop := ΦT k s
def kTru (x : EV) (s : St) : Prop := kO (truth x s) (kT ΦT s)
def kAndT (b : E) (k : Bool) (s : St) : Prop := if k then WT Γ b s ΦT Ψ else ΦT false s
def kOrT (b : E) (k : Bool) (s : St) : Prop := if k then ΦT true s else WT Γ b s ΦT Ψ
def kNotT (k : Bool) (s : St) : Prop := ΦT (!k) s
/-! lists of expressions -/
def kB2 (x : EV) (xs : List EV) (s : St) : Prop := ΦB (x :: xs) s
def kB1 (r : Es) (x : EV) (s : St) : Prop := WB Γ r s (kB2 ΦB x) Ψ
def kV3 (v : Val) (vs : List Val) (s : St) : Prop := ΦV (v :: vs) s
def kV2 (r : Es) (v : Val) (s : St) : Prop := WV Γ r s (kV3 ΦV v) Ψ
def kV1 (r : Es) (x : EV) (s : St) : Prop := WK x s (kV2 Γ Ψ ΦV r)
/-! what is walked -/
def kSeq (en : Bool) (x : EV) (s : St) : Prop := W (srcOf en x s) ΦI Ψ
def kRng (x : EV) (s : St) : Prop :=
  match x with
  | .val (.int n) => boundI n ∧ ΦI (.xs (rngL 0 n.toNat)) s
  | _ => False
def kRevI (x : EV) (s : St) : Prop :=
  match x with
  | .val (.tup xs) => ΦI (.xs xs.reverse) s
  | _ => False
/-! stores -/
def kSub3 (v : Val) (o j : EV) (s : St) : Prop :=
  match j with
  | .val j => kO (setItem o j v s) ΦG
  | _ => False
def kSub2 (i : E) (v : Val) (o : EV) (s : St) : Prop := WE Γ i s (kSub3 ΦG v o) Ψ
def kSub1 (a i : E) (v : Val) (s : St) : Prop := WE Γ a s (kSub2 Γ Ψ ΦG i v) Ψ
def kFst2 (f : String) (cs : List String) (v : Val) (o : EV) (s : St) : Prop := kO (setFld o f cs v s) ΦG
def kFst1 (a : E) (f : String) (cs : List String) (v : Val) (s : St) : Prop := WE Γ a s (kFst2 ΦG f cs v) Ψ
def kGs (r : Tgs) (xs : List Val) (s : St) : Prop := WGs Γ r xs s ΦG Ψ
/-! statements -/
def kNx (s : St) : Prop := ΦX .nxt s
def kAsg (t : Tg) (x : EV) (s : St) : Prop := WG Γ t x s (kNx ΦX) Ψ
def kRt (v : Val) (s : St) : Prop := ΦX (.ret v) s
def kRetS (x : EV) (s : St) : Prop := WK x s (kRt ΦX)
def kEx (x : EV) (s : St) : Prop := ΦX .nxt s
def kIfs (a b : Ss) (k : Bool) (s : St) : Prop := if k then WS Γ a s ΦX Ψ else WS Γ b s ΦX Ψ
def kRs1 (C : String) (v : Val) (s : St) : Prop := Ψ C v s
def kRs (C : String) (x : EV) (s : St) : Prop := WK x s (kRs1 Ψ C)
def kSq (r : Ss) (f : Flow) (s : St) : Prop :=
  match f with
  | .nxt => WS Γ r s ΦX Ψ
  | f => ΦX f s
def kAS4 (x : EV) (j : Int) (w : Val) (s : St) : Prop := kO (setItem x (.int j) w s) (kNx ΦX)
def kAS3 (o : Op2) (x : EV) (j : Int) (z : EV) (s : St) : Prop := WK z s (kAS4 ΦX x j)
def kAS2 (o : Op2) (x : EV) (j : Int) (v : Val) (y : EV) (s : St) : Prop := W (aug2 o (.val v) y s) (kAS3 ΦX o x j) Ψ
def kAS1 (o : Op2) (e : E) (x : EV) (j : Int) (s : St) (v : Val) : Prop := WE Γ e s (kAS2 Ψ ΦX o x j v) Ψ
def kASi (o : Op2) (e : E) (x y : EV) (s : St) : Prop :=
  match y with
  | .val (.int j) => kO (x.list s) fun xs => kO (atI xs j) (kAS1 Γ Ψ ΦX o e x j s)
  | _ => False
def kASa (o : Op2) (i e : E) (x : EV) (s : St) : Prop := WE Γ i s (kASi Γ Ψ ΦX o e x) Ψ
def kAF4 (n : Nat) (f : String) (cs : List String) (w : Val) (s : St) : Prop := kO (setFld (.val (.ref n)) f cs w s) (kNx ΦX)
def kAF3 (n : Nat) (f : String) (cs : List String) (z : EV) (s : St) : Prop := WK z s (kAF4 ΦX n f cs)
def kAF2 (o : Op2) (n : Nat) (f : String) (cs : List String) (s0 : St) (v : Val) (y : EV) (s : St) : Prop := clsAt s.h n = clsAt s0.h n ∧ W (aug2 o (.val v) y s) (kAF3 ΦX n f cs) Ψ
def kAF1 (o : Op2) (e : E) (n : Nat) (f : String) (cs : List String) (s : St) (v : Val) : Prop := WE Γ e s (kAF2 Ψ ΦX o n f cs s v) Ψ
def kAF (o : Op2) (e : E) (f : String) (cs : List String) (x : EV) (s : St) : Prop :=
  match x with
  | .val (.ref n) => kO (fldE (.val (.ref n)) f cs s) (kAF1 Γ Ψ ΦX o e n f cs s)
  | _ => False
/-! loops -/
def bodyF (Γ : Env) (t : Tg) (b : Ss) (x : Val) (s : St) : Res St Flow := (asg Γ t (.val x) s).bind fun _ s => execs Γ b s
def WF (t : Tg) (b : Ss) (l : List Val) (s : St) : Prop := W (forL (bodyF Γ t b) l s) ΦX Ψ
def kF2 (t : Tg) (b : Ss) (l : List Val) (f : Flow) (s : St) : Prop :=
  match f with
  | .nxt => WF Γ Ψ ΦX t b l s
  | .brk => ΦX .nxt s
  | .ret v => ΦX (.ret v) s
def kF1 (t : Tg) (b : Ss) (l : List Val) (s : St) : Prop := WS Γ b s (kF2 Γ Ψ ΦX t b l) Ψ
def WFr (t : Tg) (b : Ss) (n : Nat) (en : Bool) (m i : Nat) (s : St) : Prop := W (forR n en (bodyF Γ t b) m i s) ΦX Ψ
def kFor (t : Tg) (b : Ss) (src : Src) (s : St) : Prop :=
  match src with
  | .xs l => WF Γ Ψ ΦX t b l s
  | .ref n en => WFr Γ Ψ ΦX t b n en Γ.lim 0 s
/-! comprehensions -/
def bodyC (Γ : Env) (t : Tg) (cond elt : E) (own : List Nat) (x : Val) (s : St) : Res St (Option Val) :=
  (asg Γ t (.val x) ⟨wipe s.σ own, s.h⟩).bind fun _ s => (tst Γ cond s).bind fun k s => if k then (ev Γ elt s).bind fun y s => y.keep s fun v s => .ok (some v) s else .ok none s
def WC (t : Tg) (c e : E) (own : List Nat) (l acc : List Val) (s : St) : Prop := W (compL (bodyC Γ t c e own) l acc s) (fun vs s => Φ (.new vs) ⟨wipe s.σ own, s.h⟩) (fun _ _ _ => False)
def kC3 (t : Tg) (c e : E) (own : List Nat) (l acc : List Val) (v : Val) (s : St) : Prop := acc.length < szL ∧ WC Γ Φ t c e own l (acc ++ [v]) s
def kC2 (t : Tg) (c e : E) (own : List Nat) (l acc : List Val) (y : EV) (s : St) : Prop := WK y s (kC3 Γ Φ t c e own l acc)
def kC1 (t : Tg) (c e : E) (own : List Nat) (l acc : List Val) (k : Bool) (s : St) : Prop := if k then WE Γ e s (kC2 Γ Φ t c e own l acc) (fun _ _ _ => False) else WC Γ Φ t c e own l acc s
def kC0 (t : Tg) (c e : E) (own : List Nat) (l acc : List Val) (s : St) : Prop := WT Γ c s (kC1 Γ Φ t c e own l acc) (fun _ _ _ => False)
def WCr (t : Tg) (c e : E) (own : List Nat) (n : Nat) (en : Bool) (m i : Nat) (acc : List Val) (s : St) : Prop := W (compR n en (bodyC Γ t c e own) m i acc s) (fun vs s => Φ (.new vs) ⟨wipe s.σ own, s.h⟩) (fun _ _ _ => False)
def kComp (t : Tg) (c e : E) (own : List Nat) (src : Src) (s : St) : Prop :=
  match src with
  | .xs l => WC Γ Φ t c e own l [] s
  | .ref n en => WCr Γ Φ t c e own n en Γ.lim 0 [] s
/-! a def's end -/
def kOut (f : Flow) (s : St) : Prop :=
  match f with
  | .nxt => ΦR .non s.h
  | .ret v => ΦR v s.h
  | .brk => False
def kOutX (C : String) (v : Val) (s : St) : Prop := ΨR C v s.h
end
/-! ### the rules -/
section
variable {P : Prog} {lim k : Nat} {Γ : Env} {s : St} {σ : List (Option SV)} {h : AHeap} {Φ : EV → St → Prop} {Ψ : XK} {ΦT : Bool → St → Prop} {ΦB : List EV → St → Prop} {ΦV : List Val → St → Prop} {ΦI : Src → St → Prop} {ΦG : St → Prop} {ΦX : Flow → St → Prop} {ΦR : Val → AHeap → Prop} {ΨR : String → Val → AHeap → Prop}
variable {e a b c l hh : E} {es r : Es} {o o1 o2 : Op2} {i j n : Nat} {x y z : EV} {v w : Val} {vs ws : List Val} {xs ys : List EV} {f C m : String} {cs ks : List String} {t : Tg} {ts : Tgs} {S1 : S} {A B : Ss} {it : It} {own : List Nat} {lo hi : Option Unit}
theorem keep_W {α : Type} {F : Val → St → Res St α} {Θ : α → St → Prop} : W (x.keep s F) Θ Ψ = WK x s (fun v s => W (F v s) Θ Ψ) := by
  unfold WK EV.keep
  split
  · rfl
  · rfl
  · split <;> rfl
theorem lift_W {r : Res AHeap Val} : W (lift s r) Φ Ψ = W r (kRet Φ s.σ) (kExc Ψ s.σ) := by cases r <;> rfl
theorem r_c : WE Γ (.c v) s Φ Ψ = Φ (.val v) s := by simp only [WE, ev, W_ok]
theorem r_var : WE Γ (.var i) ⟨σ, h⟩ Φ Ψ = kVar Φ i ⟨σ, h⟩ (σ[i]?) := by
  simp only [WE, ev, W_get]
  cases σ[i]? with
  | none => simp [kVar, kO]
  | some o =>
    cases o with
    | none => simp [kVar, W, kO]
    | some w => cases w <;> simp [kVar, W, kO]
theorem r_op : WE Γ (.op o a b) s Φ Ψ = WE Γ a s (kOp1 Γ Φ Ψ o b) Ψ := by simp only [WE, ev, W_bind]; rfl
theorem r_ch : WE Γ (.ch o1 o2 a b c) s Φ Ψ = WE Γ a s (kCh1 Γ Φ Ψ o1 o2 b c) Ψ := by
  simp only [WE, ev, W_bind]
  congr 1
  funext x s
  simp only [kCh1, WE]
  congr 1
  funext y s
  simp only [kCh2, W2]
  congr 1
  funext k s
  unfold kCh3
  cases k with
  | val v =>
    cases v with
    | bl q =>
      cases q with
      | true => simp only [WE, W_bind]; rfl
      | false => rfl
    | _ => rfl
  | own i => rfl
  | new i => rfl
theorem r_isn : WE Γ (.isn a) s Φ Ψ = WE Γ a s (kIsn Φ) Ψ := by simp only [WE, ev, W_bind, W_get]; rfl
theorem r_isnt : WE Γ (.isnt a) s Φ Ψ = WE Γ a s (kIsnt Φ) Ψ := by simp only [WE, ev, W_bind, W_get]; rfl
theorem r_and : WE Γ (.and a b) s Φ Ψ = WE Γ a s (kAnd Γ Φ Ψ b) Ψ := by
  simp only [WE, ev, W_bind]
  congr 1
  funext x s
  unfold kAnd
  split <;> simp_all [WE, W]
theorem r_or : WE Γ (.or a b) s Φ Ψ = WE Γ a s (kOr Γ Φ Ψ b) Ψ := by
  simp only [WE, ev, W_bind]
  congr 1
  funext x s
  unfold kOr
  split <;> simp_all [WE, W]
theorem r_not : WE Γ (.not a) s Φ Ψ = WE Γ a s (kNot Φ) Ψ := by
  simp only [WE, ev, W_bind]
  congr 1
  funext x s
  unfold kNot
  split <;> simp_all [WE, W]
theorem r_ite : WE Γ (.ite c a b) s Φ Ψ = WT Γ c s (kIte Γ Φ Ψ a b) Ψ := by
  simp only [WE, WT, ev, W_bind]
  congr 1
  funext k s
  unfold kIte
  cases k <;> rfl
theorem r_neg : WE Γ (.neg a) s Φ Ψ = WE Γ a s (kNeg Φ) Ψ := by
  simp only [WE, ev, W_bind]
  congr 1
  funext x s
  unfold kNeg
  split <;> simp_all [WE, W]
theorem r_tup : WE Γ (.tup es) s Φ Ψ = WV Γ es s (kTup Φ) Ψ := by simp only [WE, WV, ev, W_bind, W_chk]; rfl
theorem r_lst : WE Γ (.lst es) s Φ Ψ = WV Γ es s (kLst Φ) Ψ := by simp only [WE, WV, ev, W_bind, W_chk]; rfl
theorem r_ix : WE Γ (.ix a b) s Φ Ψ = WE Γ a s (kIx1 Γ Φ Ψ b) Ψ := by
  simp only [WE, ev, W_bind]
  congr 1
  funext x s
  simp only [kIx1, WE]
  congr 1
  funext y s
  unfold kIx2
  cases y <;> simp only [W_get] <;> rfl
theorem r_sl : WE Γ (.sl a lo hi l hh) s Φ Ψ = WE Γ a s (kSl1 Γ Φ Ψ lo hi l hh) Ψ := by
  simp only [WE, ev, W_bind]
  congr 1
  funext x s
  simp only [kSl1, WE]
  congr 1
  funext y s
  unfold kSl2
  cases y with
  | val i =>
    simp only [W_get, W_bind]
    congr 1
    funext p
    simp only [WE]
    congr 1
    funext z s
    unfold kSl3
    cases z <;> simp only [W_get] <;> rfl
  | own i => rfl
  | new i => rfl
theorem r_rev : WE Γ (.rev a) s Φ Ψ = WE Γ a s (kRev Φ) Ψ := by simp only [WE, ev, W_bind, W_get]; rfl
theorem r_fld : WE Γ (.fld a f cs) s Φ Ψ = WE Γ a s (kFld Φ f cs) Ψ := by simp only [WE, ev, W_bind, W_get]; rfl
theorem r_xat : WE Γ (.xat i) ⟨σ, h⟩ Φ Ψ = kXat Φ ⟨σ, h⟩ (σ[i]?) := by
  simp only [WE, ev, W_get]
  cases σ[i]? with
  | none => simp [kXat, kO]
  | some o =>
    cases o with
    | none => simp [kXat, W, kO]
    | some w => cases w <;> simp [kXat, W, kO]
theorem r_xisi : WE Γ (.xisi i cs) ⟨σ, h⟩ Φ Ψ = kXisi Φ cs ⟨σ, h⟩ (σ[i]?) := by
  simp only [WE, ev, W_get]
  cases σ[i]? with
  | none => simp [kXisi, kO]
  | some o =>
    cases o with
    | none => simp [kXisi, W, kO]
    | some w => cases w <;> simp [kXisi, W, kO]
theorem r_bi {q : Bi} : WE Γ (.bi q es) s Φ Ψ = WB Γ es s (kBi Φ Ψ q) Ψ := by simp only [WE, WB, ev, W_bind]; rfl
theorem r_bm {T : Rk} {q : Bi} : WE Γ (.bm T q a es) s Φ Ψ = WE Γ a s (kBm Γ Φ Ψ T q es) Ψ := by simp only [WE, ev, W_bind, W_chk]; rfl
theorem r_isi {tys : List Ty} : WE Γ (.isi a tys) s Φ Ψ = WE Γ a s (kIsi Φ tys) Ψ := by simp only [WE, ev, W_bind, W_get]; rfl
theorem r_eqo : WE Γ (.eqo C a b) s Φ Ψ = WE Γ a s (kEqo1 Γ Φ Ψ C b) Ψ := by
  simp only [WE, ev, W_bind]
  rfl
theorem r_call : WE Γ (.call f es) s Φ Ψ = WV Γ es s (kCall Γ Φ Ψ f) Ψ := by
  simp only [WE, WV, ev, W_bind, lift_W]
  rfl
theorem r_mk : WE Γ (.mk C es) s Φ Ψ = WV Γ es s (kMk Γ Φ Ψ C) Ψ := by
  simp only [WE, WV, ev, W_bind]
  congr 1
  funext vs s
  unfold kMk mkE
  cases Γ.call (C ++ ".__init__") (.ref s.h.next :: vs) (s.h.new (.ins C [])) with
  | ok v h =>
    cases v <;> try rfl
    simp only [W, kMk1]
    by_cases hi : immC C = true
    · simp only [hi, if_true]
      cases h.c s.h.next with
      | none => rfl
      | some q =>
        cases q with
        | ins D fs =>
          simp only
          by_cases hd : D = C
          · simp [hd]
          · simp [hd]
        | _ => rfl
    · simp only [hi]
      rfl
  | exc D v h => rfl
  | stuck => rfl
theorem r_meth : WE Γ (.meth C m a es) s Φ Ψ = WE Γ a s (kMeth Γ Φ Ψ C m es) Ψ := by
  simp only [WE, ev, W_bind]
  congr 1
  funext x s
  unfold kMeth
  split
  · rename_i hc
    simp only [W_bind, hc, true_and, WV]
    congr 1
    funext vs s
    unfold kMeth1
    cases x <;> simp only [lift_W] <;> rfl
  · rename_i hc
    simp [hc, W]
theorem r_heap : WE Γ (.heap a) s Φ Ψ = WE Γ a s (kHeap Φ) Ψ := by
  simp only [WE, ev, W_bind]
  congr 1
  funext x s
  cases x <;> rfl
/-! tests -/
theorem t_of (hx : tst Γ e s = (ev Γ e s).bind fun x s => .get (truth x s) fun k => .ok k s) : WT Γ e s ΦT Ψ = WE Γ e s (kTru ΦT) Ψ := by
  simp only [WT, WE, hx, W_bind, W_get]; rfl
theorem t_c : WT Γ (.c v) s ΦT Ψ = WE Γ (.c v) s (kTru ΦT) Ψ := t_of (by simp only [tst])
theorem t_var : WT Γ (.var i) s ΦT Ψ = WE Γ (.var i) s (kTru ΦT) Ψ := t_of (by simp only [tst])
theorem t_op : WT Γ (.op o a b) s ΦT Ψ = WE Γ (.op o a b) s (kTru ΦT) Ψ := t_of (by simp only [tst])
theorem t_ch : WT Γ (.ch o1 o2 a b c) s ΦT Ψ = WE Γ (.ch o1 o2 a b c) s (kTru ΦT) Ψ := t_of (by simp only [tst])
theorem t_isn : WT Γ (.isn a) s ΦT Ψ = WE Γ (.isn a) s (kTru ΦT) Ψ := t_of (by simp only [tst])
theorem t_isnt : WT Γ (.isnt a) s ΦT Ψ = WE Γ (.isnt a) s (kTru ΦT) Ψ := t_of (by simp only [tst])
theorem t_fld : WT Γ (.fld a f cs) s ΦT Ψ = WE Γ (.fld a f cs) s (kTru ΦT) Ψ := t_of (by simp only [tst])
theorem t_isi {tys : List Ty} : WT Γ (.isi a tys) s ΦT Ψ = WE Γ (.isi a tys) s (kTru ΦT) Ψ := t_of (by simp only [tst])
theorem t_call : WT Γ (.call f es) s ΦT Ψ = WE Γ (.call f es) s (kTru ΦT) Ψ := t_of (by simp only [tst])
theorem t_meth : WT Γ (.meth C m a es) s ΦT Ψ = WE Γ (.meth C m a es) s (kTru ΦT) Ψ := t_of (by simp only [tst])
theorem t_xisi : WT Γ (.xisi i cs) s ΦT Ψ = WE Γ (.xisi i cs) s (kTru ΦT) Ψ := t_of (by simp only [tst])
theorem t_and : WT Γ (.and a b) s ΦT Ψ = WT Γ a s (kAndT Γ Ψ ΦT b) Ψ := by
  simp only [WT, tst, W_bind]
  congr 1
  funext k s
  cases k <;> rfl
theorem t_or : WT Γ (.or a b) s ΦT Ψ = WT Γ a s (kOrT Γ Ψ ΦT b) Ψ := by
  simp only [WT, tst, W_bind]
  congr 1
  funext k s
  cases k <;> rfl
theorem t_not : WT Γ (.not a) s ΦT Ψ = WT Γ a s (kNotT ΦT) Ψ := by simp only [WT, tst, W_bind]; rfl
/-! lists -/
theorem b_nil : WB Γ .nil s ΦB Ψ = ΦB [] s := by simp only [WB, evs, W_ok]
theorem b_cons : WB Γ (.cons e r) s ΦB Ψ = WE Γ e s (kB1 Γ Ψ ΦB r) Ψ := by simp only [WB, WE, evs, W_bind]; rfl
theorem v_nil : WV Γ .nil s ΦV Ψ = ΦV [] s := by simp only [WV, evv, W_ok]
theorem v_cons : WV Γ (.cons e r) s ΦV Ψ = WE Γ e s (kV1 Γ Ψ ΦV r) Ψ := by simp only [WV, WE, evv, W_bind, keep_W]; rfl
/-! what is walked -/
theorem i_seq : WI Γ (.seq e) s ΦI Ψ = WE Γ e s (kSeq Ψ ΦI false) Ψ := by simp only [WI, WE, evi, W_bind]; rfl
theorem i_enum : WI Γ (.enum e) s ΦI Ψ = WE Γ e s (kSeq Ψ ΦI true) Ψ := by simp only [WI, WE, evi, W_bind]; rfl
theorem i_rng : WI Γ (.rng e) s ΦI Ψ = WE Γ e s (kRng ΦI) Ψ := by
  simp only [WI, WE, evi, W_bind]
  congr 1
  funext x s
  unfold kRng
  cases x with
  | val v => cases v <;> simp only [W_chk] <;> rfl
  | own i => rfl
  | new i => rfl
theorem i_rev : WI Γ (.rev e) s ΦI Ψ = WE Γ e s (kRevI ΦI) Ψ := by
  simp only [WI, WE, evi, W_bind]
  congr 1
  funext x s
  cases x with
  | val v => cases v <;> rfl
  | own i => rfl
  | new i => rfl
/-! stores -/
theorem g_name : WG Γ (.name i) (.val v) s ΦG Ψ = ΦG (s.set i (.v v)) := by simp only [WG, asg, W_ok]
theorem g_nameN : WG Γ (.name i) (.new vs) s ΦG Ψ = ΦG (s.set i (.own vs)) := by simp only [WG, asg, W_ok]
theorem g_tup : WG Γ (.tup ts) (.val (.tup vs)) s ΦG Ψ = (vs.length = ts.len ∧ WGs Γ ts vs s ΦG Ψ) := by simp only [WG, asg, W_chk]; rfl
theorem g_sub : WG Γ (.sub a b) x s ΦG Ψ = WK x s (kSub1 Γ Ψ ΦG a b) := by
  simp only [WG, asg, keep_W, W_bind]
  congr 1
  funext v s
  simp only [kSub1, WE]
  congr 1
  funext o s
  simp only [kSub2, WE]
  congr 1
  funext j s
  unfold kSub3
  cases j <;> simp only [W_get] <;> rfl
theorem g_fld : WG Γ (.fld a f cs) x s ΦG Ψ = WK x s (kFst1 Γ Ψ ΦG a f cs) := by
  simp only [WG, asg, keep_W, W_bind, W_get]; rfl
theorem gs_nil : WGs Γ .nil [] s ΦG Ψ = ΦG s := by simp only [WGs, asgs, W_ok]
theorem gs_cons : WGs Γ (.cons t ts) (v :: vs) s ΦG Ψ = WG Γ t (.val v) s (kGs Γ Ψ ΦG ts vs) Ψ := by simp only [WGs, WG, asgs, W_bind]; rfl
/-! statements -/
theorem s_nil : WS Γ .nil s ΦX Ψ = ΦX .nxt s := by simp only [WS, execs, W_ok]
theorem s_cons : WS Γ (.cons S1 A) s ΦX Ψ = WX Γ S1 s (kSq Γ Ψ ΦX A) Ψ := by
  simp only [WS, WX, execs, W_bind]
  congr 1
  funext f s
  cases f <;> rfl
theorem x_asg : WX Γ (.asg t e) s ΦX Ψ = WE Γ e s (kAsg Γ Ψ ΦX t) Ψ := by simp only [WX, WE, exec, W_bind]; rfl
theorem x_ret : WX Γ (.ret e) s ΦX Ψ = WE Γ e s (kRetS ΦX) Ψ := by simp only [WX, WE, exec, W_bind, keep_W]; rfl
theorem x_ex : WX Γ (.ex e) s ΦX Ψ = WE Γ e s (kEx ΦX) Ψ := by simp only [WX, WE, exec, W_bind]; rfl
theorem x_ifs : WX Γ (.ifs c A B) s ΦX Ψ = WT Γ c s (kIfs Γ Ψ ΦX A B) Ψ := by
  simp only [WX, WT, exec, W_bind]
  congr 1
  funext k s
  cases k <;> rfl
theorem x_brk : WX Γ .brk s ΦX Ψ = ΦX .brk s := by simp only [WX, exec, W_ok]
theorem x_raise : WX Γ (.raise C e) s ΦX Ψ = WE Γ e s (kRs Ψ C) Ψ := by simp only [WX, WE, exec, W_bind, keep_W]; rfl
theorem x_for : WX Γ (.for t it A) s ΦX Ψ = WI Γ it s (kFor Γ Ψ ΦX t A) Ψ := by
  simp only [WX, WI, exec, W_bind]
  congr 1
  funext src s
  cases src <;> rfl
theorem x_augS : WX Γ (.aug o (.sub a b) e) s ΦX Ψ = WE Γ a s (kASa Γ Ψ ΦX o b e) Ψ := by
  simp only [WX, WE, exec, W_bind]
  congr 1
  funext x s
  simp only [kASa, WE]
  congr 1
  funext y s
  unfold kASi
  cases y with
  | val v =>
    cases v <;> try rfl
    simp only [W_get, W_bind, keep_W]
    rfl
  | own i => rfl
  | new i => rfl
theorem x_augF : WX Γ (.aug o (.fld a f cs) e) s ΦX Ψ = WE Γ a s (kAF Γ Ψ ΦX o e f cs) Ψ := by
  simp only [WX, WE, exec, W_bind]
  congr 1
  funext x s
  unfold kAF
  cases x with
  | val v =>
    cases v <;> try rfl
    simp only [W_get, W_bind, W_chk, keep_W]
    rfl
  | own i => rfl
  | new i => rfl
/-! loops -/
theorem f_nil : WF Γ Ψ ΦX t A [] s = ΦX .nxt s := by simp only [WF, forL, W_ok]
theorem f_cons : WF Γ Ψ ΦX t A (v :: vs) s = WG Γ t (.val v) s (kF1 Γ Ψ ΦX t A vs) Ψ := by
  simp only [WF, forL, W_bind, bodyF, WG]
  congr 1
  funext u s
  simp only [kF1, WS]
  congr 1
  funext f s
  cases f <;> rfl
theorem c_nil : WC Γ Φ t c e own [] vs s = Φ (.new vs) ⟨wipe s.σ own, s.h⟩ := by simp only [WC, compL, W_ok]
theorem c_cons : WC Γ Φ t c e own (v :: vs) ws s = WG Γ t (.val v) ⟨wipe s.σ own, s.h⟩ (kC0 Γ Φ t c e own vs ws) (fun _ _ _ => False) := by
  simp only [WC, compL, W_bind, bodyC, WG]
  congr 1
  funext u s
  simp only [kC0, WT]
  congr 1
  funext k s
  cases k with
  | false => simp only [kC1]; rfl
  | true =>
    simp only [kC1, if_true, W_bind, WE]
    congr 1
    funext y s
    simp only [keep_W, kC2]
    congr 1
    funext v s
    simp only [W_ok, W_chk]
    rfl
theorem r_comp : WE Γ (.comp it t c e own) s Φ Ψ = WI Γ it s (kComp Γ Φ t c e own) Ψ := by
  simp only [WE, WI, ev, W_bind, W_quiet]
  congr 1
  funext src s
  cases src <;> rfl
/-! a def -/
theorem r_enter {d : FDef} (hP : P f = some d) (hl : vs.length = d.np) : WR P lim (k + 1) f vs h ΦR ΨR = WS (G P lim k) d.body ⟨start d vs, h⟩ (kOut ΦR) (kOutX ΨR) := by
  simp only [WR, run, hP, if_pos hl]
  show W (outOf (execs (G P lim k) d.body ⟨start d vs, h⟩)) ΦR ΨR = W (execs (G P lim k) d.body ⟨start d vs, h⟩) (kOut ΦR) (kOutX ΨR)
  cases execs (G P lim k) d.body ⟨start d vs, h⟩ with
  | ok fl s => cases fl <;> rfl
  | exc C v s => rfl
  | stuck => rfl
theorem G_call : W ((G P lim k).call f vs h) ΦR ΨR = WR P lim k f vs h ΦR ΨR := rfl
end
end IA

set_option Elab.async false
set_option linter.all false
set_option maxRecDepth 100000
/-! ## Steps on values (own text) -/
namespace IA
section
variable {P : Prog} {lim k : Nat} {Γ : Env} {s : St} {σ : List (Option SV)} {h : AHeap} {Φ : EV → St → Prop} {Ψ : XK} {ΦT : Bool → St → Prop} {ΦB : List EV → St → Prop} {ΦV : List Val → St → Prop} {ΦK : Val → St → Prop} {ΦI : Src → St → Prop} {ΦG : St → Prop} {ΦX : Flow → St → Prop} {ΦR : Val → AHeap → Prop} {ΨR : String → Val → AHeap → Prop}
variable {e a b c l hh : E} {es r : Es} {o o1 o2 : Op2} {i j n : Nat} {u q : Int} {x y z : EV} {v w : Val} {vs ws : List Val} {xs ys : List EV} {f C D m : String} {fs : List (String × Val)} {cs ks : List String} {t : Tg} {ts : Tgs} {S1 : S} {A B : Ss} {it : It} {own : List Nat} {p : Prop} [Decidable p] {z1 z2 : String} {bb : Bool}
/-! operators -/
theorem W2_chk {c : Prop} [Decidable c] {r : EV} (h : op2 o x y s = Res.chk c (.ok r s)) : W2 o x y s Φ Ψ = (c ∧ Φ r s) := by
  unfold W2
  rw [h, W_chk]
  rfl
theorem Wb_get {bi' : Bi} {α : Type} {o : Option α} {g : α → EV} (h : bi bi' xs s = Res.get o fun a => .ok (g a) s) : WBi bi' xs s Φ Ψ = kO o fun a => Φ (g a) s := by
  unfold WBi
  rw [h, W_get]
  rfl
theorem o_addI : W2 .add (.val (.int u)) (.val (.int q)) s Φ Ψ = Φ (.val (.int (u + q))) s := Eq.trans rfl rfl
theorem o_addT : W2 .add (.val (.tup vs)) (.val (.tup ws)) s Φ Ψ = (vs.length + ws.length ≤ szL ∧ Φ (.val (.tup (vs ++ ws))) s) := W2_chk rfl
theorem o_addN : W2 .add (.new vs) (.new ws) s Φ Ψ = (vs.length + ws.length ≤ szL ∧ Φ (.new (vs ++ ws)) s) := W2_chk rfl
theorem o_addLN : W2 .add (.val (.lst vs)) (.new ws) s Φ Ψ = (vs.length + ws.length ≤ szL ∧ Φ (.new (vs ++ ws)) s) := W2_chk rfl
theorem o_sub : W2 .sub (.val (.int u)) (.val (.int q)) s Φ Ψ = Φ (.val (.int (u - q))) s := Eq.trans rfl rfl
theorem o_mul : W2 .mul (.val (.int u)) (.val (.int q)) s Φ Ψ = ((smallI u ∨ smallI q) ∧ Φ (.val (.int (u * q))) s) := W2_chk rfl
theorem o_rep : W2 .mul (.new vs) (.val (.int q)) s Φ Ψ = ((-(2 ^ 63) ≤ q ∧ q < 2 ^ 63 ∧ vs.length * q.toNat ≤ szL) ∧ Φ (.new (List.replicate q.toNat vs).flatten) s) := W2_chk rfl
theorem rep_c {n : Nat} : W2 .mul (.new [v]) (.val (.int (n : Int))) s Φ Ψ = (n ≤ 16777216 ∧ Φ (.new (List.replicate n v)) s) := by
  rw [o_rep, Int.toNat_natCast]
  have e : (List.replicate n [v]).flatten = List.replicate n v := by
    induction n with
    | zero => rfl
    | succ n ih => simp only [List.replicate_succ, List.flatten_cons, ih, List.singleton_append]
  rw [e]
  have e1 : (-(2 ^ 63) : Int) ≤ 0 := by decide
  have e2 : (16777216 : Int) < 2 ^ 63 := by decide
  have e3 : szL = 16777216 := rfl
  simp only [List.length_cons, List.length_nil, e3]
  generalize (2 ^ 63 : Int) = B at *
  refine propext ⟨fun z => ⟨by omega, z.2⟩, fun z => ⟨⟨by omega, by omega, by omega⟩, z.2⟩⟩
theorem o_fdiv : W2 .fdiv (.val (.int u)) (.val (.int q)) s Φ Ψ = ((0 < q ∧ q < 1073741824) ∧ Φ (.val (.int (u / q))) s) := W2_chk rfl
theorem o_mod : W2 .mod (.val (.int u)) (.val (.int q)) s Φ Ψ = (0 < q ∧ Φ (.val (.int (u % q))) s) := W2_chk rfl
theorem o_pow : W2 .pow (.val (.int u)) (.val (.int q)) s Φ Ψ = ((0 ≤ q ∧ q ≤ 1000000 ∧ u.natAbs < 2 ^ 64) ∧ Φ (.val (.int (u ^ q.toNat))) s) := W2_chk rfl
theorem o_lt : W2 .lt (.val (.int u)) (.val (.int q)) s Φ Ψ = Φ (.val (.bl (decide (u < q)))) s := Eq.trans rfl rfl
theorem o_le : W2 .le (.val (.int u)) (.val (.int q)) s Φ Ψ = Φ (.val (.bl (decide (u ≤ q)))) s := Eq.trans rfl rfl
theorem o_gt : W2 .gt (.val (.int u)) (.val (.int q)) s Φ Ψ = Φ (.val (.bl (decide (q < u)))) s := Eq.trans rfl rfl
theorem o_ge : W2 .ge (.val (.int u)) (.val (.int q)) s Φ Ψ = Φ (.val (.bl (decide (q ≤ u)))) s := Eq.trans rfl rfl
theorem o_eq : W2 .eq x y s Φ Ψ = kO (x.peek s) fun a => kO (y.peek s) fun b => kO (eqV a b) fun k => Φ (.val (.bl k)) s := by
  show W (Res.get _ fun a => Res.get _ fun b => Res.get _ fun k => .ok _ s) Φ Ψ = _
  simp only [W_get]; rfl
theorem o_ne : W2 .ne x y s Φ Ψ = kO (x.peek s) fun a => kO (y.peek s) fun b => kO (eqV a b) fun k => Φ (.val (.bl (!k))) s := by
  show W (Res.get _ fun a => Res.get _ fun b => Res.get _ fun k => .ok _ s) Φ Ψ = _
  simp only [W_get]; rfl
theorem o_eqI : W2 .eq (.val (.int u)) (.val (.int q)) s Φ Ψ = Φ (.val (.bl (decide (u = q)))) s := Eq.trans rfl rfl
theorem o_neI : W2 .ne (.val (.int u)) (.val (.int q)) s Φ Ψ = Φ (.val (.bl (!decide (u = q)))) s := Eq.trans rfl rfl
theorem o_eqS : W2 .eq (.val (.str z1)) (.val (.str z2)) s Φ Ψ = Φ (.val (.bl (decide (z1 = z2)))) s := Eq.trans rfl rfl
theorem o_neS : W2 .ne (.val (.str z1)) (.val (.str z2)) s Φ Ψ = Φ (.val (.bl (!decide (z1 = z2)))) s := Eq.trans rfl rfl
theorem o_eqB {k1 k2 : Bool} : W2 .eq (.val (.bl k1)) (.val (.bl k2)) s Φ Ψ = Φ (.val (.bl (k1 == k2))) s := Eq.trans rfl rfl
theorem o_neB {k1 k2 : Bool} : W2 .ne (.val (.bl k1)) (.val (.bl k2)) s Φ Ψ = Φ (.val (.bl (!(k1 == k2)))) s := Eq.trans rfl rfl
theorem o_eqNN : W2 .eq (.val .non) (.val .non) s Φ Ψ = Φ (.val (.bl true)) s := Eq.trans rfl rfl
/-! conditions -/
theorem if_t : kIfs Γ Ψ ΦX A B true s = WS Γ A s ΦX Ψ := Eq.trans rfl rfl
theorem if_f : kIfs Γ Ψ ΦX A B false s = WS Γ B s ΦX Ψ := Eq.trans rfl rfl
theorem it_t : kIte Γ Φ Ψ a b true s = WE Γ a s Φ Ψ := Eq.trans rfl rfl
theorem it_f : kIte Γ Φ Ψ a b false s = WE Γ b s Φ Ψ := Eq.trans rfl rfl
theorem at_t : kAndT Γ Ψ ΦT b true s = WT Γ b s ΦT Ψ := Eq.trans rfl rfl
theorem at_f : kAndT Γ Ψ ΦT b false s = ΦT false s := Eq.trans rfl rfl
theorem ot_t : kOrT Γ Ψ ΦT b true s = ΦT true s := Eq.trans rfl rfl
theorem ot_f : kOrT Γ Ψ ΦT b false s = WT Γ b s ΦT Ψ := Eq.trans rfl rfl
theorem c1_t : kC1 Γ Φ t c e own vs ws true s = WE Γ e s (kC2 Γ Φ t c e own vs ws) (fun _ _ _ => False) := Eq.trans rfl rfl
theorem and_t : kAnd Γ Φ Ψ b (.val (.bl true)) s = WE Γ b s Φ Ψ := Eq.trans rfl rfl
theorem and_f : kAnd Γ Φ Ψ b (.val (.bl false)) s = Φ (.val (.bl false)) s := Eq.trans rfl rfl
theorem or_t : kOr Γ Φ Ψ b (.val (.bl true)) s = Φ (.val (.bl true)) s := Eq.trans rfl rfl
theorem or_f : kOr Γ Φ Ψ b (.val (.bl false)) s = WE Γ b s Φ Ψ := Eq.trans rfl rfl
theorem nt : kNotT ΦT bb s = ΦT (!bb) s := Eq.trans rfl rfl
/-- a question is decided -/
theorem if_s (h1 : bb = true → WS Γ A s ΦX Ψ) (h2 : bb = false → WS Γ B s ΦX Ψ) : kIfs Γ Ψ ΦX A B bb s := by cases bb; exact h2 rfl; exact h1 rfl
theorem it_s (h1 : bb = true → WE Γ a s Φ Ψ) (h2 : bb = false → WE Γ b s Φ Ψ) : kIte Γ Φ Ψ a b bb s := by cases bb; exact h2 rfl; exact h1 rfl
theorem at_s (h1 : bb = true → WT Γ b s ΦT Ψ) (h2 : bb = false → ΦT false s) : kAndT Γ Ψ ΦT b bb s := by cases bb; exact h2 rfl; exact h1 rfl
theorem ot_s (h1 : bb = true → ΦT true s) (h2 : bb = false → WT Γ b s ΦT Ψ) : kOrT Γ Ψ ΦT b bb s := by cases bb; exact h2 rfl; exact h1 rfl
theorem ad_s (h1 : bb = true → WE Γ b s Φ Ψ) (h2 : bb = false → Φ (.val (.bl false)) s) : kAnd Γ Φ Ψ b (.val (.bl bb)) s := by cases bb; exact h2 rfl; exact h1 rfl
theorem or_s (h1 : bb = true → Φ (.val (.bl true)) s) (h2 : bb = false → WE Γ b s Φ Ψ) : kOr Γ Φ Ψ b (.val (.bl bb)) s := by cases bb; exact h2 rfl; exact h1 rfl
theorem ch_s (h1 : bb = true → WE Γ c s (kOp2 Φ Ψ o2 y) Ψ) (h2 : bb = false → Φ (.val (.bl false)) s) : kCh3 Γ Φ Ψ o2 c y (.val (.bl bb)) s := by cases bb; exact h2 rfl; exact h1 rfl
theorem c1_s (h1 : bb = true → WE Γ e s (kC2 Γ Φ t c e own vs ws) (fun _ _ _ => False)) (h2 : bb = false → WC Γ Φ t c e own vs ws s) : kC1 Γ Φ t c e own vs ws bb s := by cases bb; exact h2 rfl; exact h1 rfl
/-! truth -/
theorem tr_b : kTru ΦT (.val (.bl bb)) s = ΦT bb s := Eq.trans rfl rfl
theorem tr_l : kTru ΦT (.val (.lst vs)) s = ΦT (!vs.isEmpty) s := Eq.trans rfl rfl
/-! is None -/
theorem in_n : kIsn Φ (.val .non) s = Φ (.val (.bl true)) s := Eq.trans rfl rfl
theorem in_b : kIsn Φ (.val (.bl bb)) s = Φ (.val (.bl false)) s := Eq.trans rfl rfl
theorem in_i : kIsn Φ (.val (.int u)) s = Φ (.val (.bl false)) s := Eq.trans rfl rfl
theorem in_s : kIsn Φ (.val (.str z1)) s = Φ (.val (.bl false)) s := Eq.trans rfl rfl
theorem in_t : kIsn Φ (.val (.tup vs)) s = Φ (.val (.bl false)) s := Eq.trans rfl rfl
theorem in_l : kIsn Φ (.val (.lst vs)) s = Φ (.val (.bl false)) s := Eq.trans rfl rfl
theorem in_o : kIsn Φ (.val (.obj C fs)) s = Φ (.val (.bl false)) s := Eq.trans rfl rfl
theorem in_r : kIsn Φ (.val (.ref n)) s = Φ (.val (.bl false)) s := Eq.trans rfl rfl
theorem nn_n : kIsnt Φ (.val .non) s = Φ (.val (.bl false)) s := Eq.trans rfl rfl
theorem nn_i : kIsnt Φ (.val (.int u)) s = Φ (.val (.bl true)) s := Eq.trans rfl rfl
/-! what a name holds -/
theorem va_v : kVar Φ i s (some (some (.v v))) = Φ (.val v) s := Eq.trans rfl rfl
theorem va_o : kVar Φ i s (some (some (.own vs))) = Φ (.own i) s := Eq.trans rfl rfl
/-! kept -/
theorem kp_v : WK (.val v) s ΦK = ΦK v s := Eq.trans rfl rfl
theorem kp_n : WK (.new vs) s ΦK = ΦK (.lst vs) s := Eq.trans rfl rfl
def kOwn (i : Nat) (σ : List (Option SV)) (h : AHeap) (Φ : Val → St → Prop) : Option (Option SV) → Prop
  | some (some (.own xs)) => Φ (.lst xs) ⟨σ.set i (some (.v (.lst xs))), h⟩
  | some (some (.v (.lst xs))) => Φ (.lst xs) ⟨σ, h⟩
  | _ => False
theorem kp_o : WK (.own i) ⟨σ, h⟩ ΦK = kOwn i σ h ΦK (σ[i]?) := by
  unfold WK EV.keep
  simp only
  cases σ[i]? with
  | none => rfl
  | some o =>
    cases o with
    | none => rfl
    | some w =>
      cases w with
      | v v => cases v <;> rfl
      | own xs => rfl
      | exc C v => rfl
theorem ko_o : kOwn i σ h ΦK (some (some (.own vs))) = ΦK (.lst vs) ⟨σ.set i (some (.v (.lst vs))), h⟩ := Eq.trans rfl rfl
/-! the list of a thing -/
theorem li_l : EV.list (.val (.lst vs)) s = some vs := Eq.trans rfl rfl
theorem li_n : EV.list (.new vs) s = some vs := Eq.trans rfl rfl
def sOwn : Option (Option SV) → Option (List Val)
  | some (some (.own xs)) => some xs
  | some (some (.v (.lst xs))) => some xs
  | _ => none
theorem li_o : EV.list (.own i) ⟨σ, h⟩ = sOwn (σ[i]?) := by
  unfold EV.list
  simp only
  cases σ[i]? with
  | none => rfl
  | some o =>
    cases o with
    | none => rfl
    | some w =>
      cases w with
      | v v => cases v <;> rfl
      | own xs => rfl
      | exc C v => rfl
theorem so_o : sOwn (some (some (.own vs))) = some vs := Eq.trans rfl rfl
def sCell : Option Cell → Option (List Val)
  | some (.lst xs) => some xs
  | _ => none
theorem li_r : EV.list (.val (.ref n)) s = sCell (s.h.c n) := by
  unfold EV.list
  simp only
  cases s.h.c n with
  | none => rfl
  | some c => cases c <;> rfl
theorem sc_l : sCell (some (.lst vs)) = some vs := Eq.trans rfl rfl
theorem se_t : EV.seq (.val (.tup vs)) s = some vs := Eq.trans rfl rfl
theorem se_s : EV.seq (.val (.scr vs)) s = some vs := Eq.trans rfl rfl
theorem se_l : EV.seq (.val (.lst vs)) s = some vs := Eq.trans rfl rfl
theorem se_n : EV.seq (.new vs) s = some vs := Eq.trans rfl rfl
theorem se_o : EV.seq (.own i) s = EV.list (.own i) s := Eq.trans rfl rfl
theorem se_r : EV.seq (.val (.ref n)) s = EV.list (.val (.ref n)) s := Eq.trans rfl rfl
theorem pk_n : EV.peek (.val .non) s = some .non := Eq.trans rfl rfl
theorem pk_b : EV.peek (.val (.bl bb)) s = some (.bl bb) := Eq.trans rfl rfl
theorem pk_i : EV.peek (.val (.int u)) s = some (.int u) := Eq.trans rfl rfl
theorem pk_s : EV.peek (.val (.str z1)) s = some (.str z1) := Eq.trans rfl rfl
theorem pk_t : EV.peek (.val (.tup vs)) s = some (.tup vs) := Eq.trans rfl rfl
theorem pk_l : EV.peek (.val (.lst vs)) s = some (.lst vs) := Eq.trans rfl rfl
theorem pk_ob : EV.peek (.val (.obj C fs)) s = some (.obj C fs) := Eq.trans rfl rfl
/-! isinstance -/
def kIs1 (Φ : EV → St → Prop) (ty : Ty) (s : St) (v : Val) : Prop := kO (ofT v ty) (kBl Φ s)
theorem is_1 {ty : Ty} : kIsi Φ [ty] x s = kO (x.peek s) (kIs1 Φ ty s) := by
  unfold kIsi
  congr 1
  funext v
  unfold kIs1
  simp only [List.mapM_cons, List.mapM_nil]
  cases ofT v ty with
  | none => rfl
  | some b => simp [kO, kBl]
/-! built-ins -/
def kLen (Φ : EV → St → Prop) (s : St) (xs : List Val) : Prop := Φ (.val (.int xs.length)) s
theorem bi_lenT : WBi .len [.val (.tup vs)] s Φ Ψ = Φ (.val (.int vs.length)) s := Eq.trans rfl rfl
theorem bi_lenL : WBi .len [.val (.lst vs)] s Φ Ψ = Φ (.val (.int vs.length)) s := Eq.trans rfl rfl
theorem bi_lenO : WBi .len [.own i] s Φ Ψ = kO (EV.list (.own i) s) (kLen Φ s) := Wb_get rfl
theorem bi_lenR : WBi .len [.val (.ref n)] s Φ Ψ = kO (EV.list (.val (.ref n)) s) (kLen Φ s) := Wb_get rfl
theorem bi_intI : WBi .int [.val (.int u)] s Φ Ψ = Φ (.val (.int u)) s := Eq.trans rfl rfl
theorem bi_intB : WBi .int [.val (.bl bb)] s Φ Ψ = Φ (.val (.int (b2i bb))) s := Eq.trans rfl rfl
def kNw (Φ : EV → St → Prop) (s : St) (xs : List Val) : Prop := Φ (.new xs) s
def kTp (Φ : EV → St → Prop) (s : St) (xs : List Val) : Prop := Φ (.val (.tup xs)) s
theorem bi_list : WBi .list [x] s Φ Ψ = kO (x.seq s) (kNw Φ s) := Wb_get rfl
theorem bi_tuple : WBi .tuple [x] s Φ Ψ = kO (x.seq s) (kTp Φ s) := Wb_get rfl
theorem bi_min2 : WBi .min [.val (.int u), .val (.int q)] s Φ Ψ = Φ (.val (.int (if q < u then q else u))) s := Eq.trans rfl rfl
theorem bi_max2 : WBi .max [.val (.int u), .val (.int q)] s Φ Ψ = Φ (.val (.int (if u < q then q else u))) s := Eq.trans rfl rfl
def kAp (Φ : EV → St → Prop) (x : EV) (v : Val) (s : St) : Prop := kO (x.list s) fun xs => xs.length < szL ∧ kO (x.put (xs ++ [v]) s) fun s => Φ (.val .non) s
theorem bi_append : WBi .append [x, y] s Φ Ψ = WK y s (kAp Φ x) := by
  show W (y.keep s fun v s => .get (x.list s) fun xs => .chk (xs.length < szL) (.get (x.put (xs ++ [v]) s) fun s => .ok (.val .non) s)) Φ Ψ = _
  simp only [keep_W, W_get, W_chk]; rfl
/-! subscripts -/
def kAt (Φ : EV → St → Prop) (i : Int) (s : St) (xs : List Val) : Prop := kO (atI xs i) (kVl Φ s)
theorem ix_t : kIx2 Φ (.val (.tup vs)) (.val (.int u)) s = kAt Φ u s vs := Eq.trans rfl rfl
theorem ix_l : kIx2 Φ (.val (.lst vs)) (.val (.int u)) s = kAt Φ u s vs := Eq.trans rfl rfl
theorem ix_o : kIx2 Φ (.own i) (.val (.int u)) s = kO (EV.list (.own i) s) (kAt Φ u s) := by
  simp only [kIx2, ixE, EV.seq]
  cases EV.list (.own i) s <;> rfl
theorem ix_r : kIx2 Φ (.val (.ref n)) (.val (.int u)) s = kO (EV.list (.val (.ref n)) s) (kAt Φ u s) := by
  simp only [kIx2, ixE, EV.seq]
  cases EV.list (.val (.ref n)) s <;> rfl
theorem at_n {n : Nat} (h : n < vs.length) : kAt Φ (n : Int) s vs = Φ (.val vs[n]) s := by
  have e : ixN vs.length (n : Int) = some n := by
    unfold ixN
    rw [if_pos (by omega), if_pos (by omega)]
    simp
  simp only [kAt, atI, e, Option.bind_some, List.getElem?_eq_getElem h, kO_some, kVl]
theorem at_0 {v0 : Val} : kAt Φ 0 s (v0 :: vs) = Φ (.val v0) s := at_n (n := 0) (by simp)
theorem at_1 {v0 v1 : Val} : kAt Φ 1 s (v0 :: v1 :: vs) = Φ (.val v1) s := at_n (n := 1) (by simp)
theorem at_2 {v0 v1 v2 : Val} : kAt Φ 2 s (v0 :: v1 :: v2 :: vs) = Φ (.val v2) s := at_n (n := 2) (by simp)
theorem at_3 {v0 v1 v2 v3 : Val} : kAt Φ 3 s (v0 :: v1 :: v2 :: v3 :: vs) = Φ (.val v3) s := at_n (n := 3) (by simp)
theorem at_4 {v0 v1 v2 v3 v4 : Val} : kAt Φ 4 s (v0 :: v1 :: v2 :: v3 :: v4 :: vs) = Φ (.val v4) s := at_n (n := 4) (by simp)
theorem at_5 {v0 v1 v2 v3 v4 v5 : Val} : kAt Φ 5 s (v0 :: v1 :: v2 :: v3 :: v4 :: v5 :: vs) = Φ (.val v5) s := at_n (n := 5) (by simp)
/-! slices -/
theorem oi_n : optI none v = some none := Eq.trans rfl rfl
theorem oi_s : optI (some ()) (.int u) = some (some u) := Eq.trans rfl rfl
def kSlL (Φ : EV → St → Prop) (p q : Option Int) (s : St) (xs : List Val) : Prop := Φ (.new (cut xs p q)) s
theorem sl_t {p q : Option Int} : kO (slE (.val (.tup vs)) p q s) (kE Φ s) = Φ (.val (.tup (cut vs p q))) s := Eq.trans rfl rfl
theorem sl_l {p q : Option Int} : kO (slE (.val (.lst vs)) p q s) (kE Φ s) = Φ (.new (cut vs p q)) s := Eq.trans rfl rfl
theorem sl_o {p q : Option Int} : kO (slE (.own i) p q s) (kE Φ s) = kO (EV.list (.own i) s) (kSlL Φ p q s) := by
  simp only [slE]
  cases EV.list (.own i) s <;> rfl
theorem sl_r {p q : Option Int} : kO (slE (.val (.ref n)) p q s) (kE Φ s) = kO (EV.list (.val (.ref n)) s) (kSlL Φ p q s) := by
  simp only [slE]
  cases EV.list (.val (.ref n)) s <;> rfl
theorem cut_len {α : Type} (xs : List α) (p q : Option Int) : (cut xs p q).length ≤ xs.length := by
  unfold cut
  rw [List.length_take, List.length_drop]
  omega
/-! stores -/
theorem st_set {v : SV} : St.set ⟨σ, h⟩ i v = ⟨σ.set i (some v), h⟩ := Eq.trans rfl rfl
def kPut1 (ΦG : St → Prop) (x : EV) (v : Val) (s : St) (xs : List Val) (j : Nat) : Prop := kO (x.put (xs.set j v) s) ΦG
def kPut (ΦG : St → Prop) (x : EV) (i : Int) (v : Val) (s : St) (xs : List Val) : Prop := kO (ixN xs.length i) (kPut1 ΦG x v s xs)
theorem ix_nat {n i : Nat} (h : i < n) : ixN n (i : Int) = some i := by
  unfold ixN
  rw [if_pos (by omega), if_pos (by omega)]
  simp
theorem ixl_1 : ixN (n + 2) 1 = some 1 := ix_nat (i := 1) (by omega)
theorem ixl_2 : ixN (n + 3) 2 = some 2 := ix_nat (i := 2) (by omega)
theorem ixl_3 : ixN (n + 4) 3 = some 3 := ix_nat (i := 3) (by omega)
theorem ixl_4 : ixN (n + 5) 4 = some 4 := ix_nat (i := 4) (by omega)
theorem ixl_5 : ixN (n + 6) 5 = some 5 := ix_nat (i := 5) (by omega)
theorem su_i : kSub3 ΦG v x (.val (.int u)) s = kO (x.list s) (kPut ΦG x u v s) := by
  simp only [kSub3, setItem, kPut]
  cases x.list s with
  | none => rfl
  | some xs =>
    simp only [Option.bind_some, kO_some]
    cases hq : ixN xs.length u <;> simp [kPut, kPut1, kO, hq]
theorem put_r : EV.put (.val (.ref n)) vs ⟨σ, h⟩ = match h.c n with
    | some (.lst _) => some ⟨σ, h.set n (.lst vs)⟩
    | _ => none := rfl
theorem put_o : EV.put (.own i) vs ⟨σ, h⟩ = match σ[i]? with
    | some (some (.own _)) => some ⟨σ.set i (some (.own vs)), h⟩
    | _ => none := rfl
/-! the walked -/
theorem sq_t : kSeq Ψ ΦI false (.val (.tup vs)) s = ΦI (.xs vs) s := Eq.trans rfl rfl
theorem sq_l : kSeq Ψ ΦI false (.val (.lst vs)) s = ΦI (.xs vs) s := Eq.trans rfl rfl
theorem sq_n : kSeq Ψ ΦI false (.new vs) s = ΦI (.xs vs) s := Eq.trans rfl rfl
theorem sq_et : kSeq Ψ ΦI true (.val (.tup vs)) s = ΦI (.xs (enumL 0 vs)) s := Eq.trans rfl rfl
theorem sq_el : kSeq Ψ ΦI true (.val (.lst vs)) s = ΦI (.xs (enumL 0 vs)) s := Eq.trans rfl rfl
/-! heap -/
theorem hp_get (cc : Cell) : (h.set n cc).c n = some cc := by simp [AHeap.set]
theorem hp_set (c1 c2 : Cell) : (h.set n c1).set n c2 = h.set n c2 := by
  simp only [AHeap.set]
  congr 1
  funext m
  split <;> rfl
/-! flow -/
theorem fl_n : kSq Γ Ψ ΦX A .nxt s = WS Γ A s ΦX Ψ := Eq.trans rfl rfl
theorem fl_b : kSq Γ Ψ ΦX A .brk s = ΦX .brk s := Eq.trans rfl rfl
theorem fl_r : kSq Γ Ψ ΦX A (.ret v) s = ΦX (.ret v) s := Eq.trans rfl rfl
theorem f2_n : kF2 Γ Ψ ΦX t A vs .nxt s = WF Γ Ψ ΦX t A vs s := Eq.trans rfl rfl
theorem ou_n : kOut ΦR .nxt s = ΦR .non s.h := Eq.trans rfl rfl
theorem ou_r : kOut ΦR (.ret v) s = ΦR v s.h := Eq.trans rfl rfl
theorem ca_G : kCall (G P lim k) Φ Ψ f vs ⟨σ, h⟩ = WR P lim k f vs h (kRet Φ σ) (kExc Ψ σ) := Eq.trans rfl rfl
theorem re_t : kRet Φ σ v h = Φ (.val v) ⟨σ, h⟩ := Eq.trans rfl rfl
theorem fo_x : kFor Γ Ψ ΦX t A (.xs vs) s = WF Γ Ψ ΦX t A vs s := Eq.trans rfl rfl
theorem co_x : kComp Γ Φ t c e own (.xs vs) s = WC Γ Φ t c e own vs [] s := Eq.trans rfl rfl
end
/-! ### loops by invariants -/
section
variable {Γ : Env} {Ψ : XK} {ΦX : Flow → St → Prop} {Φ : EV → St → Prop} {t : Tg} {A : Ss} {c e : E} {own : List Nat}
def kI2 (I : Nat → St → Prop) (ΦX : Flow → St → Prop) (i : Nat) (f : Flow) (s : St) : Prop :=
  match f with
  | .nxt => I (i + 1) s
  | .brk => ΦX .nxt s
  | .ret v => ΦX (.ret v) s
def kI1 (Γ : Env) (Ψ : XK) (A : Ss) (I : Nat → St → Prop) (ΦX : Flow → St → Prop) (i : Nat) (s : St) : Prop := WS Γ A s (kI2 I ΦX i) Ψ
theorem WF_inv (I : Nat → St → Prop) {l : List Val} {s : St} (h0 : I 0 s) (hs : ∀ (i : Nat) (x : Val) s, l[i]? = some x → I i s → WG Γ t (.val x) s (kI1 Γ Ψ A I ΦX i) Ψ) (hd : ∀ s, I l.length s → ΦX .nxt s) : WF Γ Ψ ΦX t A l s := by
  have key : ∀ (m : List Val) (i : Nat) (s : St), m = l.drop i → i ≤ l.length → I i s → WF Γ Ψ ΦX t A m s := by
    intro m
    induction m with
    | nil =>
      intro i s e hi q
      rw [f_nil]
      have : i = l.length := by
        have h1 := congrArg List.length e
        simp at h1
        omega
      subst this
      exact hd s q
    | cons x m ih =>
      intro i s e hi q
      have hlt : i < l.length := by
        have h1 := congrArg List.length e
        simp at h1
        omega
      have ex : l[i]? = some x := by
        have h1 : (l.drop i)[0]? = some x := by rw [← e]; rfl
        rw [List.getElem?_drop] at h1
        simpa using h1
      rw [f_cons]
      unfold WG
      refine W.mono (hs i x s ex q) (fun _ s1 h1 => ?_) fun _ _ _ z => z
      unfold kF1 WS
      refine W.mono h1 (fun f s2 h2 => ?_) fun _ _ _ z => z
      cases f with
      | nxt =>
        refine ih (i + 1) s2 ?_ hlt h2
        rw [← List.drop_drop, ← e]
        rfl
      | brk => exact h2
      | ret v => exact h2
  exact key l 0 s rfl (Nat.zero_le _) h0
theorem ki_n {I : Nat → St → Prop} {i : Nat} {s : St} : kI2 I ΦX i .nxt s = I (i + 1) s := rfl
theorem ki_b {I : Nat → St → Prop} {i : Nat} {s : St} : kI2 I ΦX i .brk s = ΦX .nxt s := rfl
theorem ki_r {I : Nat → St → Prop} {i : Nat} {s : St} {v : Val} : kI2 I ΦX i (.ret v) s = ΦX (.ret v) s := rfl
/-- a comprehension by an invariant over what is made -/
def kJ3 (I : Nat → List Val → St → Prop) (i : Nat) (acc : List Val) (v : Val) (s : St) : Prop := acc.length < szL ∧ I (i + 1) (acc ++ [v]) s
def kJ2 (I : Nat → List Val → St → Prop) (i : Nat) (acc : List Val) (y : EV) (s : St) : Prop := WK y s (kJ3 I i acc)
def kJ1 (Γ : Env) (e : E) (I : Nat → List Val → St → Prop) (i : Nat) (acc : List Val) (k : Bool) (s : St) : Prop := if k then WE Γ e s (kJ2 I i acc) (fun _ _ _ => False) else I (i + 1) acc s
def kJ0 (Γ : Env) (c e : E) (I : Nat → List Val → St → Prop) (i : Nat) (acc : List Val) (s : St) : Prop := WT Γ c s (kJ1 Γ e I i acc) (fun _ _ _ => False)
theorem kj_t {I : Nat → List Val → St → Prop} {i : Nat} {acc : List Val} {s : St} : kJ1 Γ e I i acc true s = WE Γ e s (kJ2 I i acc) (fun _ _ _ => False) := Eq.trans rfl rfl
theorem WC_inv (I : Nat → List Val → St → Prop) {l : List Val} {s : St} (h0 : I 0 [] s) (hs : ∀ (i : Nat) (x : Val) acc s, l[i]? = some x → I i acc s → WG Γ t (.val x) ⟨wipe s.σ own, s.h⟩ (kJ0 Γ c e I i acc) (fun _ _ _ => False)) (hd : ∀ acc s, I l.length acc s → Φ (.new acc) ⟨wipe s.σ own, s.h⟩) : WC Γ Φ t c e own l [] s := by
  have key : ∀ (m : List Val) (i : Nat) (acc : List Val) (s : St), m = l.drop i → i ≤ l.length → I i acc s → WC Γ Φ t c e own m acc s := by
    intro m
    induction m with
    | nil =>
      intro i acc s e hi q
      rw [c_nil]
      have : i = l.length := by
        have h1 := congrArg List.length e
        simp at h1
        omega
      subst this
      exact hd acc s q
    | cons x m ih =>
      intro i acc s e hi q
      have hlt : i < l.length := by
        have h1 := congrArg List.length e
        simp at h1
        omega
      have ex : l[i]? = some x := by
        have h1 : (l.drop i)[0]? = some x := by rw [← e]; rfl
        rw [List.getElem?_drop] at h1
        simpa using h1
      have ed : m = l.drop (i + 1) := by
        rw [← List.drop_drop, ← e]
        rfl
      rw [c_cons]
      unfold WG
      refine W.mono (hs i x acc s ex q) (fun _ s1 h1 => ?_) fun _ _ _ z => z
      unfold kC0 WT
      refine W.mono h1 (fun k s2 h2 => ?_) fun _ _ _ z => z
      cases k with
      | false => exact ih (i + 1) acc s2 ed hlt h2
      | true =>
        rw [kj_t] at h2
        rw [c1_t]
        unfold WE
        refine W.mono h2 (fun y s3 h3 => ?_) fun _ _ _ z => z
        unfold kC2 WK
        refine W.mono h3 (fun v s4 h4 => ?_) fun _ _ _ z => z
        exact ⟨h4.1, ih (i + 1) _ s4 ed hlt h4.2⟩
  exact key l 0 [] s rfl (Nat.zero_le _) h0
end
theorem smR {a b : Int} (h1 : -18446744073709551616 < b) (h2 : b < 18446744073709551616) : smallI a ∨ smallI b := .inr ⟨by omega, by omega⟩
theorem bdI {n : Int} (h1 : -4611686018427387904 ≤ n) (h2 : n < 4611686018427387904) : boundI n := ⟨by omega, by omega⟩
theorem smL {a b : Int} (h1 : -18446744073709551616 < a) (h2 : a < 18446744073709551616) : smallI a ∨ smallI b := .inl ⟨by omega, by omega⟩
/-! ### steps as lemmas: not by computation -/
theorem u_kOp1 (Γ : Env) (Φ : EV → St → Prop) (Ψ : XK) (o : Op2) (b : E) (x : EV) (s : St) : kOp1 Γ Φ Ψ o b x s = (WE Γ b s (kOp2 Φ Ψ o x) Ψ) := Eq.trans rfl rfl
theorem u_kOp2 (Φ : EV → St → Prop) (Ψ : XK) (o : Op2) (x y : EV) (s : St) : kOp2 Φ Ψ o x y s = (W2 o x y s Φ Ψ) := Eq.trans rfl rfl
theorem u_kCh1 (Γ : Env) (Φ : EV → St → Prop) (Ψ : XK) (o1 o2 : Op2) (b c : E) (x : EV) (s : St) : kCh1 Γ Φ Ψ o1 o2 b c x s = (WE Γ b s (kCh2 Γ Φ Ψ o1 o2 c x) Ψ) := Eq.trans rfl rfl
theorem u_kCh2 (Γ : Env) (Φ : EV → St → Prop) (Ψ : XK) (o1 o2 : Op2) (c : E) (x y : EV) (s : St) : kCh2 Γ Φ Ψ o1 o2 c x y s = (W2 o1 x y s (kCh3 Γ Φ Ψ o2 c y) Ψ) := Eq.trans rfl rfl
theorem u_kTup (Φ : EV → St → Prop) (vs : List Val) (s : St) : kTup Φ vs s = (vs.length ≤ szL ∧ Φ (.val (.tup vs)) s) := Eq.trans rfl rfl
theorem u_kLst (Φ : EV → St → Prop) (vs : List Val) (s : St) : kLst Φ vs s = (vs.length ≤ szL ∧ Φ (.new vs) s) := Eq.trans rfl rfl
theorem u_kIx1 (Γ : Env) (Φ : EV → St → Prop) (Ψ : XK) (i : E) (x : EV) (s : St) : kIx1 Γ Φ Ψ i x s = (WE Γ i s (kIx2 Φ x) Ψ) := Eq.trans rfl rfl
theorem u_kSl1 (Γ : Env) (Φ : EV → St → Prop) (Ψ : XK) (lo hi : Option Unit) (l h : E) (x : EV) (s : St) : kSl1 Γ Φ Ψ lo hi l h x s = (WE Γ l s (kSl2 Γ Φ Ψ lo hi h x) Ψ) := Eq.trans rfl rfl
theorem u_kSlL  (Φ : EV → St → Prop) (p q : Option Int) (s : St) (xs : List Val) : kSlL Φ p q s xs = (Φ (.new (cut xs p q)) s) := Eq.trans rfl rfl
theorem u_kRevL (Φ : EV → St → Prop) (s : St) (xs : List Val) : kRevL Φ s xs = (Φ (.new xs.reverse) s) := Eq.trans rfl rfl
theorem u_kRev (Φ : EV → St → Prop) (x : EV) (s : St) : kRev Φ x s = (kO (x.list s) (kRevL Φ s)) := Eq.trans rfl rfl
theorem u_kFld (Φ : EV → St → Prop) (f : String) (cs : List String) (x : EV) (s : St) : kFld Φ f cs x s = (kO (fldE x f cs s) (kVl Φ s)) := Eq.trans rfl rfl
theorem u_kBi (Φ : EV → St → Prop) (Ψ : XK) (b : Bi) (xs : List EV) (s : St) : kBi Φ Ψ b xs s = (WBi b xs s Φ Ψ) := Eq.trans rfl rfl
theorem u_kBm (Γ : Env) (Φ : EV → St → Prop) (Ψ : XK) (T : Rk) (b : Bi) (es : Es) (x : EV) (s : St) : kBm Γ Φ Ψ T b es x s = (recvOk T x s = true ∧ WB Γ es s (kBm1 Φ Ψ b x) Ψ) := Eq.trans rfl rfl
theorem u_kBm1 (Φ : EV → St → Prop) (Ψ : XK) (b : Bi) (x : EV) (xs : List EV) (s : St) : kBm1 Φ Ψ b x xs s = (WBi b (x :: xs) s Φ Ψ) := Eq.trans rfl rfl
theorem u_kVl (Φ : EV → St → Prop) (s : St) (v : Val) : kVl Φ s v = (Φ (.val v) s) := Eq.trans rfl rfl
theorem u_kBl (Φ : EV → St → Prop) (s : St) (k : Bool) : kBl Φ s k = (Φ (.val (.bl k)) s) := Eq.trans rfl rfl
theorem u_kB1 (Γ : Env) (Ψ : XK) (ΦB : List EV → St → Prop) (r : Es) (x : EV) (s : St) : kB1 Γ Ψ ΦB r x s = (WB Γ r s (kB2 ΦB x) Ψ) := Eq.trans rfl rfl
theorem u_kB2 (ΦB : List EV → St → Prop) (x : EV) (xs : List EV) (s : St) : kB2 ΦB x xs s = (ΦB (x :: xs) s) := Eq.trans rfl rfl
theorem u_kV1 (Γ : Env) (Ψ : XK) (ΦV : List Val → St → Prop) (r : Es) (x : EV) (s : St) : kV1 Γ Ψ ΦV r x s = (WK x s (kV2 Γ Ψ ΦV r)) := Eq.trans rfl rfl
theorem u_kV2 (Γ : Env) (Ψ : XK) (ΦV : List Val → St → Prop) (r : Es) (v : Val) (s : St) : kV2 Γ Ψ ΦV r v s = (WV Γ r s (kV3 ΦV v) Ψ) := Eq.trans rfl rfl
theorem u_kV3 (ΦV : List Val → St → Prop) (v : Val) (vs : List Val) (s : St) : kV3 ΦV v vs s = (ΦV (v :: vs) s) := Eq.trans rfl rfl
theorem u_kSub1 (Γ : Env) (Ψ : XK) (ΦG : St → Prop) (a i : E) (v : Val) (s : St) : kSub1 Γ Ψ ΦG a i v s = (WE Γ a s (kSub2 Γ Ψ ΦG i v) Ψ) := Eq.trans rfl rfl
theorem u_kSub2 (Γ : Env) (Ψ : XK) (ΦG : St → Prop) (i : E) (v : Val) (o : EV) (s : St) : kSub2 Γ Ψ ΦG i v o s = (WE Γ i s (kSub3 ΦG v o) Ψ) := Eq.trans rfl rfl
theorem u_kFst1 (Γ : Env) (Ψ : XK) (ΦG : St → Prop) (a : E) (f : String) (cs : List String) (v : Val) (s : St) : kFst1 Γ Ψ ΦG a f cs v s = (WE Γ a s (kFst2 ΦG f cs v) Ψ) := Eq.trans rfl rfl
theorem u_kFst2 (ΦG : St → Prop) (f : String) (cs : List String) (v : Val) (o : EV) (s : St) : kFst2 ΦG f cs v o s = (kO (setFld o f cs v s) ΦG) := Eq.trans rfl rfl
theorem u_kGs (Γ : Env) (Ψ : XK) (ΦG : St → Prop) (r : Tgs) (xs : List Val) (s : St) : kGs Γ Ψ ΦG r xs s = (WGs Γ r xs s ΦG Ψ) := Eq.trans rfl rfl
theorem u_kNx (ΦX : Flow → St → Prop) (s : St) : kNx ΦX s = (ΦX .nxt s) := Eq.trans rfl rfl
theorem u_kAsg (Γ : Env) (Ψ : XK) (ΦX : Flow → St → Prop) (t : Tg) (x : EV) (s : St) : kAsg Γ Ψ ΦX t x s = (WG Γ t x s (kNx ΦX) Ψ) := Eq.trans rfl rfl
theorem u_kRt (ΦX : Flow → St → Prop) (v : Val) (s : St) : kRt ΦX v s = (ΦX (.ret v) s) := Eq.trans rfl rfl
theorem u_kRetS (ΦX : Flow → St → Prop) (x : EV) (s : St) : kRetS ΦX x s = (WK x s (kRt ΦX)) := Eq.trans rfl rfl
theorem u_kEx (ΦX : Flow → St → Prop) (x : EV) (s : St) : kEx ΦX x s = (ΦX .nxt s) := Eq.trans rfl rfl
theorem u_kRs (Ψ : XK) (C : String) (x : EV) (s : St) : kRs Ψ C x s = (WK x s (kRs1 Ψ C)) := Eq.trans rfl rfl
theorem u_kRs1 (Ψ : XK) (C : String) (v : Val) (s : St) : kRs1 Ψ C v s = (Ψ C v s) := Eq.trans rfl rfl
theorem u_kASa (Γ : Env) (Ψ : XK) (ΦX : Flow → St → Prop) (o : Op2) (i e : E) (x : EV) (s : St) : kASa Γ Ψ ΦX o i e x s = (WE Γ i s (kASi Γ Ψ ΦX o e x) Ψ) := Eq.trans rfl rfl
theorem u_kAS1 (Γ : Env) (Ψ : XK) (ΦX : Flow → St → Prop) (o : Op2) (e : E) (x : EV) (j : Int) (s : St) (v : Val) : kAS1 Γ Ψ ΦX o e x j s v = (WE Γ e s (kAS2 Ψ ΦX o x j v) Ψ) := Eq.trans rfl rfl
theorem u_kAS2 (Ψ : XK) (ΦX : Flow → St → Prop) (o : Op2) (x : EV) (j : Int) (v : Val) (y : EV) (s : St) : kAS2 Ψ ΦX o x j v y s = (W (aug2 o (.val v) y s) (kAS3 ΦX o x j) Ψ) := Eq.trans rfl rfl
theorem u_kAS3 (ΦX : Flow → St → Prop) (o : Op2) (x : EV) (j : Int) (z : EV) (s : St) : kAS3 ΦX o x j z s = (WK z s (kAS4 ΦX x j)) := Eq.trans rfl rfl
theorem u_kAS4 (ΦX : Flow → St → Prop) (x : EV) (j : Int) (w : Val) (s : St) : kAS4 ΦX x j w s = (kO (setItem x (.int j) w s) (kNx ΦX)) := Eq.trans rfl rfl
theorem u_kF1 (Γ : Env) (Ψ : XK) (ΦX : Flow → St → Prop) (t : Tg) (b : Ss) (l : List Val) (s : St) : kF1 Γ Ψ ΦX t b l s = (WS Γ b s (kF2 Γ Ψ ΦX t b l) Ψ) := Eq.trans rfl rfl
theorem u_kI1  (Γ : Env) (Ψ : XK) (A : Ss) (I : Nat → St → Prop) (ΦX : Flow → St → Prop) (i : Nat) (s : St) : kI1 Γ Ψ A I ΦX i s = (WS Γ A s (kI2 I ΦX i) Ψ) := Eq.trans rfl rfl
theorem u_kJ0  (Γ : Env) (c e : E) (I : Nat → List Val → St → Prop) (i : Nat) (acc : List Val) (s : St) : kJ0 Γ c e I i acc s = (WT Γ c s (kJ1 Γ e I i acc) (fun _ _ _ => False)) := Eq.trans rfl rfl
theorem u_kJ2  (I : Nat → List Val → St → Prop) (i : Nat) (acc : List Val) (y : EV) (s : St) : kJ2 I i acc y s = (WK y s (kJ3 I i acc)) := Eq.trans rfl rfl
theorem u_kJ3  (I : Nat → List Val → St → Prop) (i : Nat) (acc : List Val) (v : Val) (s : St) : kJ3 I i acc v s = (acc.length < szL ∧ I (i + 1) (acc ++ [v]) s) := Eq.trans rfl rfl
theorem u_kIs1  (Φ : EV → St → Prop) (ty : Ty) (s : St) (v : Val) : kIs1 Φ ty s v = (kO (ofT v ty) (kBl Φ s)) := Eq.trans rfl rfl
theorem u_kLen  (Φ : EV → St → Prop) (s : St) (xs : List Val) : kLen Φ s xs = (Φ (.val (.int xs.length)) s) := Eq.trans rfl rfl
theorem u_kNw  (Φ : EV → St → Prop) (s : St) (xs : List Val) : kNw Φ s xs = (Φ (.new xs) s) := Eq.trans rfl rfl
theorem u_kTp  (Φ : EV → St → Prop) (s : St) (xs : List Val) : kTp Φ s xs = (Φ (.val (.tup xs)) s) := Eq.trans rfl rfl
theorem u_kAp  (Φ : EV → St → Prop) (x : EV) (v : Val) (s : St) : kAp Φ x v s = (kO (x.list s) fun xs => xs.length < szL ∧ kO (x.put (xs ++ [v]) s) fun s => Φ (.val .non) s) := Eq.trans rfl rfl
theorem u_kExc (Ψ : XK) (σ : List (Option SV)) (C : String) (v : Val) (h : AHeap) : kExc Ψ σ C v h = (Ψ C v ⟨σ, h⟩) := Eq.trans rfl rfl
theorem u_kOutX (ΨR : String → Val → AHeap → Prop) (C : String) (v : Val) (s : St) : kOutX ΨR C v s = (ΨR C v s.h) := Eq.trans rfl rfl
theorem u_kPut  (ΦG : St → Prop) (x : EV) (i : Int) (v : Val) (s : St) (xs : List Val) : kPut ΦG x i v s xs = (kO (ixN xs.length i) (kPut1 ΦG x v s xs)) := Eq.trans rfl rfl
theorem u_kPut1  (ΦG : St → Prop) (x : EV) (v : Val) (s : St) (xs : List Val) (j : Nat) : kPut1 ΦG x v s xs j = (kO (x.put (xs.set j v) s) ΦG) := Eq.trans rfl rfl
theorem u_kMeth (Γ : Env) (Φ : EV → St → Prop) (Ψ : XK) (C m : String) (es : Es) (x : EV) (s : St) : kMeth Γ Φ Ψ C m es x s = (isC C m x s = true ∧ WV Γ es s (kMeth1 Γ Φ Ψ C m x) Ψ) := Eq.trans rfl rfl
/-! ### the end -/
theorem run_of_WR {P : Prog} {lim k : Nat} {f : String} {vs : List Val} {h : AHeap} (q : WR P lim k f vs h (fun v _ => v = .bl true) fun _ _ _ => False) : ∃ h', run P lim k f vs h = .ok (.bl true) h' := by
  unfold WR W at q
  split at q
  · subst q
    exact ⟨_, by assumption⟩
  · exact q.elim
  · exact q.elim
end IA

set_option linter.all false
namespace IX
open IA
def b_law_same : FDef := ⟨2, 3, (.cons (.ifs (.or ((.isi (.var 1) [.tuple])) (((.isi (.var 1) [.list])))) (.cons (.ifs (.or (.op .ne (.isi (.var 1) [.tuple]) (.isi (.var 0) [.tuple])) ((.op .ne (.isi (.var 1) [.list]) (.isi (.var 0) [.list])))) (.cons (.ret (.c (.bl false))) .nil) .nil)
    (.cons (.ifs (.op .ne (.bi .len (.cons (.var 0) .nil)) (.bi .len (.cons (.var 1) .nil))) (.cons (.ret (.c (.bl false))) .nil) .nil)
    (.cons (.for (.name 2) (.rng (.bi .len (.cons (.var 1) .nil))) (.cons (.ifs (.not ((.call "_law_same" (.cons (.ix (.var 0) (.var 2)) (.cons (.ix (.var 1) (.var 2)) .nil))))) (.cons (.ret (.c (.bl false))) .nil) .nil) .nil))
    (.cons (.ret (.c (.bl true))) .nil)))) .nil)
  (.cons (.ifs (.or (.isn (.var 1)) (((.isi (.var 1) [.bool])))) (.cons (.ret (.and (.op .eq (.isn (.var 0)) (.isn (.var 1))) (.and (.or (.isn (.var 1)) (.isi (.var 0) [.bool])) (.op .eq (.var 0) (.var 1))))) .nil) .nil)
  (.cons (.ifs ((.isi (.var 1) [.int])) (.cons (.ret (.and (.isi (.var 0) [.int]) (.and (.not (.isi (.var 0) [.bool])) (.op .eq (.var 0) (.var 1))))) .nil) .nil)
  (.cons (.ret (.and (.isi (.var 0) [.str]) (.op .eq (.var 0) (.var 1)))) .nil))))⟩
def b_combine : FDef := ⟨3, 3, (.cons (.ifs (.op .eq (.var 0) (.c (.str "+"))) (.cons (.ret (.op .mod (.op .add (.var 1) (.var 2)) (.c (.int 65536)))) .nil) .nil)
  (.cons (.ifs (.op .eq (.var 0) (.c (.str "-"))) (.cons (.ret (.op .mod (.op .sub (.var 1) (.var 2)) (.c (.int 65536)))) .nil) .nil)
  (.cons (.ifs (.op .eq (.var 0) (.c (.str "*"))) (.cons (.ret (.op .mod (.op .mul (.var 1) (.var 2)) (.c (.int 65536)))) .nil) .nil)
  (.cons (.ifs (.op .eq (.var 0) (.c (.str "/"))) (.cons (.ret (.ite (.op .gt (.var 2) (.c (.int 0))) (.op .fdiv (.var 1) (.var 2)) (.c (.int 0)))) .nil) .nil)
  (.cons (.ifs (.op .eq (.var 0) (.c (.str "mod"))) (.cons (.ret (.ite (.op .gt (.var 2) (.c (.int 0))) (.op .mod (.var 1) (.var 2)) (.c (.int 0)))) .nil) .nil)
  (.cons (.ifs (.op .eq (.var 0) (.c (.str "<"))) (.cons (.ret (.bi .int (.cons (.op .lt (.var 1) (.var 2)) .nil))) .nil) .nil)
  (.cons (.ret (.bi .int (.cons (.op .eq (.var 1) (.var 2)) .nil))) .nil)))))))⟩
def b_law_draw : FDef := ⟨2, 4, (.cons (.ifs (.and (.op .le (.ix (.var 0) (.c (.int 2))) (.c (.int 0))) (.and (.op .le (.ix (.var 0) (.c (.int 4))) (.c (.int 0))) ((.op .lt (.ix (.var 0) (.c (.int 1))) (.bi .len (.cons (.ix (.var 0) (.c (.int 0))) .nil)))))) (.cons (.asg (.name 2) (.ix (.ix (.var 0) (.c (.int 0))) (.ix (.var 0) (.c (.int 1)))))
    (.cons (.asg (.sub (.var 0) (.c (.int 1))) (.op .add (.ix (.var 0) (.c (.int 1))) (.c (.int 1))))
    (.cons (.asg (.sub (.var 0) (.c (.int 3))) (.op .mod (.bi .int (.cons (.op .add (.op .mul (.ix (.var 0) (.c (.int 3))) (.c (.int 31))) (.var 2)) .nil)) (.c (.int 2147483647))))
    (.cons (.asg (.sub (.var 0) (.c (.int 4))) (.c (.int 7)))
    (.cons (.ifs (.op .ge (.var 2) (.op .pow (.c (.int 10)) (.c (.int 18)))) (.cons (.asg (.sub (.var 0) (.c (.int 2))) (.var 2)) .nil) .nil) .nil))))) .nil)
  (.cons (.ifs (.op .gt (.ix (.var 0) (.c (.int 2))) (.c (.int 0))) (.cons (.asg (.name 3) (.op .mod (.bi .int (.cons (.ix (.var 0) (.c (.int 2))) .nil)) (.var 1)))
    (.cons (.asg (.sub (.var 0) (.c (.int 2))) (.op .fdiv (.ix (.var 0) (.c (.int 2))) (.var 1)))
    (.cons (.asg (.sub (.var 0) (.c (.int 4))) (.c (.int 0)))
    (.cons (.ret (.var 3)) .nil)))) .nil)
  (.cons (.asg (.sub (.var 0) (.c (.int 4))) (.op .sub (.ix (.var 0) (.c (.int 4))) (.c (.int 1))))
  (.cons (.asg (.sub (.var 0) (.c (.int 3))) (.op .mod (.bi .int (.cons (.op .add (.op .mul (.ix (.var 0) (.c (.int 3))) (.c (.int 48271))) (.c (.int 12345))) .nil)) (.c (.int 2147483647))))
  (.cons (.ret (.op .mod (.op .mod (.bi .int (.cons (.op .add (.op .mul (.ix (.var 0) (.c (.int 3))) (.c (.int 69621))) (.c (.int 7919))) .nil)) (.c (.int 2147483647))) (.var 1))) .nil)))))⟩
def b_law_number : FDef := ⟨1, 1, (.cons (.ifs (.op .eq (.call "_law_draw" (.cons (.var 0) (.cons (.c (.int 3)) .nil))) (.c (.int 0))) (.cons (.ret (.call "_law_draw" (.cons (.var 0) (.cons (.c (.int 65536)) .nil)))) .nil) .nil)
  (.cons (.ret (.call "_law_draw" (.cons (.var 0) (.cons (.c (.int 9)) .nil)))) .nil))⟩
def b_law_pool : FDef := ⟨2, 2, (.cons (.ret (.heap (.lst (.cons (.bi .list (.cons (.var 0) .nil)) (.cons (.c (.int 0)) (.cons (.c (.int 0)) (.cons (.c (.int 1)) (.cons (.c (.int 0)) (.cons (.var 1) .nil))))))))) .nil)⟩
def b_Interface_fits : FDef := ⟨2, 6, (.cons (.ifs (.or (.not (.ch .le .le (.c (.int 1)) (.ix (.fld (.var 0) "exports" ["Interface"]) (.var 1)) (.c (.int 8)))) ((.op .gt (.bi .len (.cons (.ix (.fld (.var 0) "imports" ["Interface"]) (.var 1)) .nil)) (.c (.int 8))))) (.cons (.ret (.c (.bl false))) .nil) .nil)
  (.cons (.for (.tup (.cons (.name 2) (.cons (.name 3) .nil))) (.enum (.ix (.fld (.var 0) "imports" ["Interface"]) (.var 1))) (.cons (.asg (.tup (.cons (.name 4) (.cons (.name 5) .nil))) (.var 3))
    (.cons (.ifs (.or (.op .eq (.var 4) (.var 1)) (.or (.not (.ch .le .lt (.c (.int 0)) (.var 4) (.bi .len (.cons (.fld (.var 0) "exports" ["Interface"]) .nil)))) ((.op .mem (.var 3) (.sl (.ix (.fld (.var 0) "imports" ["Interface"]) (.var 1)) none (some ()) (.c .non) (.var 2)))))) (.cons (.ret (.c (.bl false))) .nil) .nil)
    (.cons (.ifs (.not (.ch .le .lt (.c (.int 0)) (.var 5) (.ix (.fld (.var 0) "exports" ["Interface"]) (.var 4)))) (.cons (.ret (.c (.bl false))) .nil) .nil) .nil))))
  (.cons (.ret (.c (.bl true))) .nil)))⟩
def b_Interface_ini : FDef := ⟨2, 4, (.cons (.asg (.fld (.var 0) "exports" ["Interface"]) (.bi .tuple (.cons (.comp (.seq (.var 1)) (.name 2) (.c (.bl true)) (.ix (.var 2) (.c (.int 0))) [2]) .nil)))
  (.cons (.asg (.fld (.var 0) "imports" ["Interface"]) (.bi .tuple (.cons (.comp (.seq (.var 1)) (.name 2) (.c (.bl true)) (.bi .tuple (.cons (.ix (.var 2) (.c (.int 1))) .nil)) [2]) .nil)))
  (.cons (.ifs (.not (.ch .le .le (.c (.int 1)) (.bi .len (.cons (.fld (.var 0) "exports" ["Interface"]) .nil)) (.c (.int 8)))) (.cons (.raise "BadInterface" (.bi .min (.cons (.bi .len (.cons (.fld (.var 0) "exports" ["Interface"]) .nil)) (.cons (.c (.int 8)) .nil)))) .nil) .nil)
  (.cons (.for (.name 3) (.rng (.bi .len (.cons (.fld (.var 0) "exports" ["Interface"]) .nil))) (.cons (.ifs (.not ((.meth "Interface" "fits" (.var 0) (.cons (.var 3) .nil)))) (.cons (.raise "BadInterface" (.var 3)) .nil) .nil) .nil)) .nil))))⟩
def b_Interface_eqq : FDef := ⟨2, 2, (.cons (.ret (.and (.isi (.var 1) [.cls "Interface" ["Interface"]]) (.and (.op .eq (.fld (.var 0) "exports" ["Interface"]) (.fld (.var 1) "exports" ["Interface"])) (.op .eq (.fld (.var 0) "imports" ["Interface"]) (.fld (.var 1) "imports" ["Interface"]))))) .nil)⟩
def b_Interface_size : FDef := ⟨1, 1, (.cons (.ret (.bi .len (.cons (.fld (.var 0) "exports" ["Interface"]) .nil))) .nil)⟩
def b_law_unlike_k02 : FDef := ⟨2, 10, (.cons (.for (.name 2) (.rng (.bi .len (.cons (.var 0) .nil))) (.cons (.asg (.tup (.cons (.name 3) (.cons (.name 4) .nil))) (.ix (.var 0) (.var 2)))
    (.cons (.ifs (.op .lt (.var 3) (.c (.int 8))) (.cons (.asg (.name 5) (.mk "Interface" (.cons (.op .add (.op .add (.sl (.var 0) none (some ()) (.c .non) (.var 2)) (.lst (.cons (.tup (.cons (.op .add (.var 3) (.c (.int 1))) (.cons (.var 4) .nil))) .nil))) (.sl (.var 0) (some ()) none (.op .add (.var 2) (.c (.int 1))) (.c .non))) .nil)))
      (.cons (.ifs (.not ((.call "_law_same" (.cons (.eqo "Interface" (.var 5) (.var 1)) (.cons (.c (.bl false)) .nil))))) (.cons (.ret (.c (.bl false))) .nil) .nil) .nil)) .nil)
    (.cons (.asg (.name 6) (.lst .nil))
    (.cons (.ifs (.op .gt (.bi .len (.cons (.var 4) .nil)) (.c (.int 0))) (.cons (.asg (.name 6) (.lst (.cons (.sl (.var 4) (some ()) none (.c (.int 1)) (.c .non)) .nil))) .nil) .nil)
    (.cons (.ifs (.op .gt (.bi .len (.cons (.var 4) .nil)) (.c (.int 1))) (.cons (.ex (.bm .list .append (.var 6) (.cons (.op .add (.sl (.var 4) (some ()) none (.c (.int 1)) (.c .non)) (.sl (.var 4) none (some ()) (.c .non) (.c (.int 1)))) .nil))) .nil) .nil)
    (.cons (.for (.name 7) (.rng (.bi .len (.cons (.var 0) .nil))) (.cons (.for (.name 8) (.rng (.ix (.ix (.var 0) (.var 7)) (.c (.int 0)))) (.cons (.ifs (.and (.op .ne (.var 7) (.var 2)) (.and (.op .nmem (.tup (.cons (.var 7) (.cons (.var 8) .nil))) (.var 4)) ((.op .gt (.bi .len (.cons (.var 4) .nil)) (.c (.int 0)))))) (.cons (.ex (.bm .list .append (.var 6) (.cons (.op .add (.sl (.var 4) (some ()) none (.c (.int 1)) (.c .non)) (.lst (.cons (.tup (.cons (.var 7) (.cons (.var 8) .nil))) .nil))) .nil))) .nil) .nil) .nil)) .nil))
    (.cons (.for (.name 9) (.seq (.sl (.var 6) none (some ()) (.c .non) (.c (.int 4)))) (.cons (.ifs (.not ((.call "_law_same" (.cons (.eqo "Interface" (.var 1) (.mk "Interface" (.cons (.op .add (.op .add (.sl (.var 0) none (some ()) (.c .non) (.var 2)) (.lst (.cons (.tup (.cons (.var 3) (.cons (.var 9) .nil))) .nil))) (.sl (.var 0) (some ()) none (.op .add (.var 2) (.c (.int 1))) (.c .non))) .nil))) (.cons (.c (.bl false)) .nil))))) (.cons (.ret (.c (.bl false))) .nil) .nil) .nil)) .nil))))))))
  (.cons (.ret (.c (.bl true))) .nil))⟩
def b_law_same__hot : FDef := ⟨2, 3, (.cons (.ifs (.or ((.isi (.var 1) [.tuple])) (((.isi (.var 1) [.list])))) (.cons (.ifs (.or (.op .ne (.isi (.var 1) [.tuple]) (.isi (.var 0) [.tuple])) ((.op .ne (.isi (.var 1) [.list]) (.isi (.var 0) [.list])))) (.cons (.ret (.c (.bl false))) .nil) .nil)
    (.cons (.ifs (.op .ne (.bi .len (.cons (.var 0) .nil)) (.bi .len (.cons (.var 1) .nil))) (.cons (.ret (.c (.bl false))) .nil) .nil)
    (.cons (.asg (.tup .nil) (.c .non))
    (.cons (.ret (.c (.bl true))) .nil)))) .nil)
  (.cons (.ifs (.or (.isn (.var 1)) (((.isi (.var 1) [.bool])))) (.cons (.ret (.and (.op .eq (.isn (.var 0)) (.isn (.var 1))) (.and (.or (.isn (.var 1)) (.isi (.var 0) [.bool])) (.op .eq (.var 0) (.var 1))))) .nil) .nil)
  (.cons (.ifs ((.isi (.var 1) [.int])) (.cons (.ret (.and (.isi (.var 0) [.int]) (.and (.not (.isi (.var 0) [.bool])) (.op .eq (.var 0) (.var 1))))) .nil) .nil)
  (.cons (.ret (.and (.isi (.var 0) [.str]) (.op .eq (.var 0) (.var 1)))) .nil))))⟩
def b_law_fits : FDef := ⟨2, 7, (.cons (.asg (.tup (.cons (.name 2) (.cons (.name 3) .nil))) (.ix (.var 0) (.var 1)))
  (.cons (.ifs (.or (.not (.ch .le .le (.c (.int 1)) (.var 2) (.c (.int 8)))) ((.op .gt (.bi .len (.cons (.var 3) .nil)) (.c (.int 8))))) (.cons (.ret (.c (.bl false))) .nil) .nil)
  (.cons (.for (.name 4) (.rng (.bi .len (.cons (.var 3) .nil))) (.cons (.asg (.tup (.cons (.name 5) (.cons (.name 6) .nil))) (.ix (.var 3) (.var 4)))
    (.cons (.ifs (.or (.op .eq (.var 5) (.var 1)) (.or (.not (.ch .le .lt (.c (.int 0)) (.var 5) (.bi .len (.cons (.var 0) .nil)))) ((.op .mem (.ix (.var 3) (.var 4)) (.sl (.var 3) none (some ()) (.c .non) (.var 4)))))) (.cons (.ret (.c (.bl false))) .nil) .nil)
    (.cons (.ifs (.not (.ch .le .lt (.c (.int 0)) (.var 6) (.ix (.ix (.var 0) (.var 5)) (.c (.int 0))))) (.cons (.ret (.c (.bl false))) .nil) .nil) .nil))))
  (.cons (.ret (.c (.bl true))) .nil))))⟩
def b_law_bad : FDef := ⟨1, 2, (.cons (.ifs (.op .gt (.bi .len (.cons (.var 0) .nil)) (.c (.int 8))) (.cons (.ret (.c (.int 8))) .nil) .nil)
  (.cons (.for (.name 1) (.rng (.bi .len (.cons (.var 0) .nil))) (.cons (.ifs (.not ((.call "_law_fits" (.cons (.var 0) (.cons (.var 1) .nil))))) (.cons (.ret (.var 1)) .nil) .nil) .nil))
  (.cons (.ifs (.op .eq (.bi .len (.cons (.var 0) .nil)) (.c (.int 0))) (.cons (.ret (.c (.int 0))) .nil) .nil)
  (.cons (.ret (.c .non)) .nil))))⟩
def b_law_rows_k02h : FDef := ⟨2, 9, (.cons (.asg (.name 2) (.op .add (.c (.int 1)) (.call "_law_draw" (.cons (.var 0) (.cons (.var 1) .nil)))))
  (.cons (.asg (.name 3) (.comp (.rng (.var 2)) (.name 4) (.c (.bl true)) (.op .add (.c (.int 1)) (.call "_law_draw" (.cons (.var 0) (.cons (.c (.int 3)) .nil)))) [4]))
  (.cons (.asg (.name 5) (.heap (.lst .nil)))
  (.cons (.for (.name 4) (.rng (.var 2)) (.cons (.asg (.name 6) (.lst .nil))
    (.cons (.for (.name 7) (.rng (.var 2)) (.cons (.for (.name 8) (.rng (.ix (.var 3) (.var 7))) (.cons (.ifs (.and (.op .ne (.var 7) (.var 4)) (.and (.op .gt (.call "_law_draw" (.cons (.var 0) (.cons (.c (.int 5)) .nil))) (.c (.int 1))) ((.op .lt (.bi .len (.cons (.var 6) .nil)) (.c (.int 5)))))) (.cons (.ex (.bm .list .append (.var 6) (.cons (.tup (.cons (.var 7) (.cons (.var 8) .nil))) .nil))) .nil) .nil) .nil)) .nil))
    (.cons (.ifs (.op .eq (.call "_law_draw" (.cons (.var 0) (.cons (.c (.int 3)) .nil))) (.c (.int 0))) (.cons (.asg (.name 6) (.rev (.var 6))) .nil) .nil)
    (.cons (.ex (.bm .list .append (.var 5) (.cons (.tup (.cons (.ix (.var 3) (.var 4)) (.cons (.var 6) .nil))) .nil))) .nil)))))
  (.cons (.ret (.var 5)) .nil)))))⟩
def b_law_drawn_rows_k02h : FDef := ⟨1, 7, (.cons (.asg (.name 1) (.call "_law_rows" (.cons (.var 0) (.cons (.c (.int 8)) .nil))))
  (.cons (.asg (.name 2) (.call "_law_draw" (.cons (.var 0) (.cons (.c (.int 9)) .nil))))
  (.cons (.asg (.name 3) (.call "_law_draw" (.cons (.var 0) (.cons (.bi .len (.cons (.var 1) .nil)) .nil))))
  (.cons (.asg (.tup (.cons (.name 4) (.cons (.name 5) .nil))) (.ix (.var 1) (.var 3)))
  (.cons (.ifs (.op .eq (.var 2) (.c (.int 1))) (.cons (.asg (.sub (.var 1) (.var 3)) (.tup (.cons (.call "_law_draw" (.cons (.var 0) (.cons (.c (.int 11)) .nil))) (.cons (.var 5) .nil)))) .nil) .nil)
  (.cons (.ifs (.and (.op .eq (.var 2) (.c (.int 2))) (((.var 5)))) (.cons (.asg (.sub (.var 1) (.var 3)) (.tup (.cons (.var 4) (.cons (.op .add (.var 5) (.lst (.cons (.ix (.var 5) (.call "_law_draw" (.cons (.var 0) (.cons (.bi .len (.cons (.var 5) .nil)) .nil)))) .nil))) .nil)))) .nil) .nil)
  (.cons (.ifs (.op .eq (.var 2) (.c (.int 3))) (.cons (.asg (.sub (.var 1) (.var 3)) (.tup (.cons (.var 4) (.cons (.op .add (.var 5) (.lst (.cons (.tup (.cons (.op .sub (.call "_law_draw" (.cons (.var 0) (.cons (.c (.int 11)) .nil))) (.c (.int 1))) (.cons (.op .sub (.call "_law_draw" (.cons (.var 0) (.cons (.c (.int 5)) .nil))) (.c (.int 1))) .nil))) .nil))) .nil)))) .nil) .nil)
  (.cons (.ifs (.op .eq (.var 2) (.c (.int 4))) (.cons (.asg (.name 1) (.heap (.op .add (.var 1) (.comp (.rng (.call "_law_draw" (.cons (.var 0) (.cons (.c (.int 9)) .nil)))) (.name 6) (.c (.bl true)) (.tup (.cons (.c (.int 1)) (.cons (.lst .nil) .nil))) [6])))) .nil) .nil)
  (.cons (.ifs (.op .eq (.var 2) (.c (.int 5))) (.cons (.asg (.name 1) (.heap (.sl (.var 1) none (some ()) (.c .non) (.call "_law_draw" (.cons (.var 0) (.cons (.c (.int 2)) .nil)))))) .nil) .nil)
  (.cons (.ifs (.op .eq (.var 2) (.c (.int 6))) (.cons (.asg (.name 1) (.heap (.lst (.cons (.tup (.cons (.c (.int 8)) (.cons (.comp (.rng (.call "_law_draw" (.cons (.var 0) (.cons (.c (.int 10)) .nil)))) (.name 6) (.c (.bl true)) (.tup (.cons (.c (.int 1)) (.cons (.var 6) .nil))) [6]) .nil))) (.cons (.tup (.cons (.c (.int 8)) (.cons (.comp (.rng (.call "_law_draw" (.cons (.var 0) (.cons (.c (.int 9)) .nil)))) (.name 6) (.c (.bl true)) (.tup (.cons (.c (.int 0)) (.cons (.var 6) .nil))) [6]) .nil))) .nil))))) .nil) .nil)
  (.cons (.ret (.var 1)) .nil)))))))))))⟩
def b_law_spend : FDef := ⟨1, 1, (.cons (.asg (.sub (.var 0) (.c (.int 5))) (.op .sub (.ix (.var 0) (.c (.int 5))) (.c (.int 1))))
  (.cons (.ret (.op .ge (.ix (.var 0) (.c (.int 5))) (.c (.int 0)))) .nil))⟩
def b_law_few : FDef := ⟨2, 3, (.cons (.asg (.name 2) (.call "_law_draw" (.cons (.var 0) (.cons (.c (.int 4)) .nil))))
  (.cons (.ifs (.op .eq (.var 2) (.c (.int 3))) (.cons (.ret (.call "_law_draw" (.cons (.var 0) (.cons (.op .add (.var 1) (.c (.int 1))) .nil)))) .nil) .nil)
  (.cons (.ret (.bi .min (.cons (.var 2) (.cons (.var 1) .nil)))) .nil)))⟩
def b_Process_leave : FDef := ⟨2, 4, (.cons (.asg (.name 2) (.bm .list .pop (.fld (.var 0) "frames" ["Process"]) .nil))
  (.cons (.aug .sub (.sub (.fld (.var 0) "used" ["Process"]) (.fld (.var 2) "component" ["Frame"])) (.fld (.var 2) "size" ["Frame"]))
  (.cons (.ifs (.not ((.fld (.var 0) "frames" ["Process"]))) (.cons (.ex (.bm .list .append (.fld (.var 0) "trace" ["Process"]) (.cons (.tup (.cons (.c (.str "end")) (.cons (.var 1) .nil))) .nil)))
    (.cons (.asg (.fld (.var 0) "state" ["Process"]) (.c (.str "ended")))
    (.cons (.ret (.c .non)) .nil))) .nil)
  (.cons (.asg (.name 3) (.ix (.fld (.var 0) "frames" ["Process"]) (.neg (.c (.int 1)))))
  (.cons (.ifs ((.fld (.var 2) "crossed" ["Frame"])) (.cons (.ex (.bm .list .append (.fld (.var 0) "trace" ["Process"]) (.cons (.tup (.cons (.c (.str "return")) (.cons (.fld (.var 2) "component" ["Frame"]) (.cons (.fld (.var 3) "component" ["Frame"]) (.cons (.var 1) .nil))))) .nil))) .nil) .nil)
  (.cons (.asg (.sub (.fld (.var 3) "cells" ["Frame"]) (.fld (.var 3) "waits" ["Frame"])) (.var 1)) .nil))))))⟩
def b_chained : FDef := ⟨2, 3, (.cons (.for (.name 2) (.rev (.var 0)) (.cons (.asg (.name 1) (.tup (.cons (.var 2) (.cons (.var 1) .nil)))) .nil))
  (.cons (.ret (.var 1)) .nil))⟩
def b_Frame_ini : FDef := ⟨5, 5, (.cons (.asg (.fld (.var 0) "component" ["Frame"]) (.var 1))
  (.cons (.asg (.fld (.var 0) "size" ["Frame"]) (.op .add (.c (.int 2)) (.bi .len (.cons (.var 2) .nil))))
  (.cons (.asg (.fld (.var 0) "cells" ["Frame"]) (.var 2))
  (.cons (.asg (.fld (.var 0) "rest" ["Frame"]) (.var 3))
  (.cons (.asg (.fld (.var 0) "crossed" ["Frame"]) (.var 4))
  (.cons (.asg (.fld (.var 0) "waits" ["Frame"]) (.c (.int 0))) .nil))))))⟩
def b_Process_enter : FDef := ⟨5, 8, (.cons (.asg (.name 5) (.ix (.fld (.var 0) "components" ["Process"]) (.var 1)))
  (.cons (.asg (.tup (.cons (.name 6) (.cons (.name 7) .nil))) (.ix (.fld (.var 5) "procedures" ["Component"]) (.var 2)))
  (.cons (.ifs (.op .gt (.op .add (.op .add (.ix (.fld (.var 0) "used" ["Process"]) (.var 1)) (.c (.int 2))) (.var 6)) (.fld (.var 5) "room" ["Component"])) (.cons (.asg (.fld (.var 0) "state" ["Process"]) (.c (.str "full")))
    (.cons (.ret (.c .non)) .nil)) .nil)
  (.cons (.aug .add (.sub (.fld (.var 0) "used" ["Process"]) (.var 1)) (.op .add (.c (.int 2)) (.var 6)))
  (.cons (.ex (.bm .list .append (.fld (.var 0) "frames" ["Process"]) (.cons (.mk "Frame" (.cons (.var 1) (.cons (.heap (.op .add (.lst (.cons (.var 3) .nil)) (.op .mul (.lst (.cons (.c (.int 0)) .nil)) (.op .sub (.var 6) (.c (.int 1)))))) (.cons (.call "chained" (.cons (.var 7) (.cons (.c .non) .nil))) (.cons (.var 4) .nil))))) .nil))) .nil)))))⟩
def b_Process_act : FDef := ⟨4, 7, (.cons (.asg (.name 4) (.ix (.var 2) (.c (.int 0))))
  (.cons (.ifs (.op .eq (.var 4) (.c (.str "set"))) (.cons (.asg (.sub (.fld (.var 1) "cells" ["Frame"]) (.ix (.var 2) (.c (.int 1)))) (.var 3)) .nil) (.cons (.ifs (.op .eq (.var 4) (.c (.str "return"))) (.cons (.ex (.meth "Process" "leave" (.var 0) (.cons (.var 3) .nil))) .nil) (.cons (.ifs (.op .eq (.var 4) (.c (.str "if"))) (.cons (.asg (.fld (.var 1) "rest" ["Frame"]) (.call "chained" (.cons (.ite (.op .ne (.var 3) (.c (.int 0))) (.ix (.var 2) (.c (.int 2))) (.ix (.var 2) (.c (.int 3)))) (.cons (.fld (.var 1) "rest" ["Frame"]) .nil)))) .nil) (.cons (.ifs (.op .eq (.var 4) (.c (.str "while"))) (.cons (.ifs (.op .ne (.var 3) (.c (.int 0))) (.cons (.asg (.fld (.var 1) "rest" ["Frame"]) (.call "chained" (.cons (.ix (.var 2) (.c (.int 2))) (.cons (.tup (.cons (.var 2) (.cons (.fld (.var 1) "rest" ["Frame"]) .nil))) .nil)))) .nil) .nil) .nil) (.cons (.asg (.fld (.var 1) "waits" ["Frame"]) (.ix (.var 2) (.c (.int 1))))
          (.cons (.ifs (.op .eq (.var 4) (.c (.str "call"))) (.cons (.ex (.meth "Process" "enter" (.var 0) (.cons (.fld (.var 1) "component" ["Frame"]) (.cons (.ix (.var 2) (.c (.int 2))) (.cons (.var 3) (.cons (.c (.bl false)) .nil)))))) .nil) (.cons (.asg (.tup (.cons (.name 5) (.cons (.name 6) .nil))) (.ix (.ix (.fld (.fld (.var 0) "interface" ["Process"]) "imports" ["Interface"]) (.fld (.var 1) "component" ["Frame"])) (.ix (.var 2) (.c (.int 2)))))
            (.cons (.ex (.bm .list .append (.fld (.var 0) "trace" ["Process"]) (.cons (.tup (.cons (.c (.str "call")) (.cons (.fld (.var 1) "component" ["Frame"]) (.cons (.var 5) (.cons (.var 6) (.cons (.var 3) .nil)))))) .nil)))
            (.cons (.ex (.meth "Process" "enter" (.var 0) (.cons (.var 5) (.cons (.var 6) (.cons (.var 3) (.cons (.c (.bl true)) .nil)))))) .nil)))) .nil))) .nil)) .nil)) .nil)) .nil))⟩
def b_Process_blame : FDef := ⟨1, 1, (.cons (.asg (.fld (.var 0) "state" ["Process"]) (.c (.str "undefined")))
  (.cons (.asg (.fld (.var 0) "blamed" ["Process"]) (.fld (.ix (.fld (.var 0) "frames" ["Process"]) (.neg (.c (.int 1)))) "component" ["Frame"])) .nil))⟩
def b_Process_value : FDef := ⟨2, 8, (.cons (.asg (.name 2) (.ix (.var 1) (.c (.int 0))))
  (.cons (.ifs (.op .eq (.var 2) (.c (.str "number"))) (.cons (.ret (.ix (.var 1) (.c (.int 1)))) .nil) .nil)
  (.cons (.asg (.name 3) (.ix (.fld (.var 0) "frames" ["Process"]) (.neg (.c (.int 1)))))
  (.cons (.ifs (.op .eq (.var 2) (.c (.str "local"))) (.cons (.ret (.ix (.fld (.var 3) "cells" ["Frame"]) (.ix (.var 1) (.c (.int 1))))) .nil) .nil)
  (.cons (.ifs (.op .eq (.var 2) (.c (.str "get"))) (.cons (.asg (.name 4) (.meth "Process" "value" (.var 0) (.cons (.ix (.var 1) (.c (.int 2))) .nil)))
    (.cons (.asg (.name 5) (.ix (.ix (.fld (.var 0) "buffers" ["Process"]) (.fld (.var 3) "component" ["Frame"])) (.ix (.var 1) (.c (.int 1)))))
    (.cons (.ifs (.or (.isn (.var 4)) ((.op .ge (.var 4) (.bi .len (.cons (.var 5) .nil))))) (.cons (.ex (.meth "Process" "blame" (.var 0) .nil))
      (.cons (.ret (.c .non)) .nil)) .nil)
    (.cons (.ret (.ix (.var 5) (.var 4))) .nil)))) .nil)
  (.cons (.asg (.name 6) (.meth "Process" "value" (.var 0) (.cons (.ix (.var 1) (.c (.int 1))) .nil)))
  (.cons (.asg (.name 7) (.meth "Process" "value" (.var 0) (.cons (.ix (.var 1) (.c (.int 2))) .nil)))
  (.cons (.ifs (.or (.isn (.var 6)) ((.isn (.var 7)))) (.cons (.ret (.c .non)) .nil) .nil)
  (.cons (.ret (.call "combine" (.cons (.var 2) (.cons (.var 6) (.cons (.var 7) .nil))))) .nil)))))))))⟩
def b_Process_put : FDef := ⟨2, 5, (.cons (.asg (.name 2) (.meth "Process" "value" (.var 0) (.cons (.ix (.var 1) (.c (.int 2))) .nil)))
  (.cons (.asg (.name 3) (.meth "Process" "value" (.var 0) (.cons (.ix (.var 1) (.c (.int 3))) .nil)))
  (.cons (.ifs (.or (.isn (.var 2)) ((.isn (.var 3)))) (.cons (.ret (.c .non)) .nil) .nil)
  (.cons (.asg (.name 4) (.ix (.ix (.fld (.var 0) "buffers" ["Process"]) (.fld (.ix (.fld (.var 0) "frames" ["Process"]) (.neg (.c (.int 1)))) "component" ["Frame"])) (.ix (.var 1) (.c (.int 1)))))
  (.cons (.ifs (.op .lt (.var 2) (.bi .len (.cons (.var 4) .nil))) (.cons (.asg (.sub (.var 4) (.var 2)) (.var 3)) .nil) (.cons (.ex (.meth "Process" "blame" (.var 0) .nil)) .nil)) .nil)))))⟩
def b_Process_step : FDef := ⟨1, 6, (.cons (.aug .add (.fld (.var 0) "steps" ["Process"]) (.c (.int 1)))
  (.cons (.asg (.name 1) (.ix (.fld (.var 0) "frames" ["Process"]) (.neg (.c (.int 1)))))
  (.cons (.ifs (.isn (.fld (.var 1) "rest" ["Frame"])) (.cons (.ex (.meth "Process" "leave" (.var 0) (.cons (.c (.int 0)) .nil)))
    (.cons (.ret (.c .non)) .nil)) .nil)
  (.cons (.asg (.tup (.cons (.name 2) (.cons (.name 3) .nil))) (.fld (.var 1) "rest" ["Frame"]))
  (.cons (.asg (.fld (.var 1) "rest" ["Frame"]) (.var 3))
  (.cons (.ifs (.op .eq (.ix (.var 2) (.c (.int 0))) (.c (.str "put"))) (.cons (.ex (.meth "Process" "put" (.var 0) (.cons (.var 2) .nil)))
    (.cons (.ret (.c .non)) .nil)) .nil)
  (.cons (.asg (.name 4) (.ite (.op .mem (.ix (.var 2) (.c (.int 0))) (.tup (.cons (.c (.str "if")) (.cons (.c (.str "while")) (.cons (.c (.str "return")) .nil))))) (.c (.int 1)) (.op .sub (.bi .len (.cons (.var 2) .nil)) (.c (.int 1)))))
  (.cons (.asg (.name 5) (.meth "Process" "value" (.var 0) (.cons (.ix (.var 2) (.var 4)) .nil)))
  (.cons (.ifs (.isnt (.var 5)) (.cons (.ex (.meth "Process" "act" (.var 0) (.cons (.var 1) (.cons (.var 2) (.cons (.var 5) .nil))))) .nil) .nil) .nil)))))))))⟩
def b_Process_ini : FDef := ⟨3, 5, (.cons (.asg (.fld (.var 0) "interface" ["Process"]) (.var 1))
  (.cons (.asg (.fld (.var 0) "components" ["Process"]) (.bi .list (.cons (.var 2) .nil)))
  (.cons (.asg (.fld (.var 0) "buffers" ["Process"]) (.comp (.seq (.var 2)) (.name 3) (.c (.bl true)) (.comp (.seq (.fld (.var 3) "buffers" ["Component"])) (.name 4) (.c (.bl true)) (.heap (.bi .list (.cons (.var 4) .nil))) [4]) [3]))
  (.cons (.asg (.fld (.var 0) "used" ["Process"]) (.heap (.comp (.seq (.var 2)) (.name 3) (.c (.bl true)) (.c (.int 0)) [3])))
  (.cons (.asg (.fld (.var 0) "frames" ["Process"]) (.heap (.lst .nil)))
  (.cons (.asg (.fld (.var 0) "trace" ["Process"]) (.heap (.lst .nil)))
  (.cons (.asg (.fld (.var 0) "steps" ["Process"]) (.c (.int 0)))
  (.cons (.asg (.fld (.var 0) "state" ["Process"]) (.c (.str "running")))
  (.cons (.asg (.fld (.var 0) "blamed" ["Process"]) (.c .non))
  (.cons (.ex (.meth "Process" "enter" (.var 0) (.cons (.c (.int 0)) (.cons (.c (.int 0)) (.cons (.c (.int 0)) (.cons (.c (.bl true)) .nil)))))) .nil))))))))))⟩
def b_Process_go : FDef := ⟨3, 4, (.cons (.for (.name 3) (.rng (.var 1)) (.cons (.ifs (.or (.op .ne (.fld (.var 0) "state" ["Process"]) (.c (.str "running"))) ((.op .ge (.bi .len (.cons (.fld (.var 0) "trace" ["Process"]) .nil)) (.var 2)))) (.cons .brk .nil) .nil)
    (.cons (.ex (.meth "Process" "step" (.var 0) .nil)) .nil)))
  (.cons (.ret (.bi .list (.cons (.fld (.var 0) "trace" ["Process"]) .nil))) .nil))⟩
def b_law_k02 : FDef := ⟨1, 9, (.cons (.asg (.name 1) (.call "_law_pool" (.cons (.var 0) (.cons (.c (.int 0)) .nil))))
  (.cons (.asg (.name 2) (.call "_law_drawn_rows" (.cons (.var 1) .nil)))
  (.cons (.asg (.name 3) (.comp (.seq (.var 2)) (.name 4) (.c (.bl true)) (.tup (.cons (.ix (.var 4) (.c (.int 0))) (.cons (.bi .list (.cons (.ix (.var 4) (.c (.int 1))) .nil)) .nil))) [4]))
  (.cons (.asg (.name 5) (.call "_law_bad" (.cons (.var 2) .nil)))
  (.cons (.try (.cons (.asg (.name 6) (.mk "Interface" (.cons (.var 3) .nil))) .nil) "BlameError" (some 7) (.cons (.ifs (.or ((.xisi 7 ["BadText"])) ((.op .ne (.var 3) (.var 2)))) (.cons (.ret (.c (.bl false))) .nil) .nil)
    (.cons (.ret (.and (.isnt (.var 5)) (.and (.xisi 7 ["BadInterface"]) (.call "_law_same__hot" (.cons (.xat 7) (.cons (.var 5) .nil)))))) .nil)) .nil ["BadText", "BadInterface"])
  (.cons (.ifs (.or (.isnt (.var 5)) (.or (.op .ne (.var 3) (.var 2)) ((.not ((.call "_law_unlike" (.cons (.var 2) (.cons (.var 6) .nil)))))))) (.cons (.ret (.c (.bl false))) .nil) .nil)
  (.cons (.asg (.name 8) (.lst (.cons (.bi .tuple (.cons (.comp (.seq (.var 2)) (.name 4) (.c (.bl true)) (.ix (.var 4) (.c (.int 0))) [4]) .nil)) (.cons (.bi .tuple (.cons (.comp (.seq (.var 2)) (.name 4) (.c (.bl true)) (.bi .tuple (.cons (.ix (.var 4) (.c (.int 1))) .nil)) [4]) .nil)) .nil))))
  (.cons (.ifs (.or (.not ((.call "_law_same" (.cons (.lst (.cons (.fld (.var 6) "exports" ["Interface"]) (.cons (.fld (.var 6) "imports" ["Interface"]) .nil))) (.cons (.var 8) .nil))))) ((.not ((.call "_law_same" (.cons (.meth "Interface" "size" (.var 6) .nil) (.cons (.bi .len (.cons (.var 2) .nil)) .nil))))))) (.cons (.ret (.c (.bl false))) .nil) .nil)
  (.cons (.ret (.call "_law_same" (.cons (.eqo "Interface" (.mk "Interface" (.cons (.bi .list (.cons (.var 2) .nil)) .nil)) (.var 6)) (.cons (.c (.bl true)) .nil)))) .nil)))))))))⟩
def P_k02 : Prog := fun f => List.lookup f [("_law_same", b_law_same), ("Interface.fits", b_Interface_fits), ("Interface.__init__", b_Interface_ini), ("Interface.__eq__", b_Interface_eqq), ("Interface.size", b_Interface_size), ("_law_unlike", b_law_unlike_k02), ("_law_same__hot", b_law_same__hot), ("_law_fits", b_law_fits), ("_law_bad", b_law_bad), ("_law_draw", b_law_draw), ("_law_rows", b_law_rows_k02h), ("_law_drawn_rows", b_law_drawn_rows_k02h), ("_law_pool", b_law_pool), ("law", b_law_k02)]
theorem p_k02_law_same : P_k02 "_law_same" = some b_law_same := by rfl
theorem p_k02_Interface_fits : P_k02 ("Interface" ++ "." ++ "fits") = some b_Interface_fits := by rfl
theorem p_k02_Interface_ini : P_k02 ("Interface" ++ ".__init__") = some b_Interface_ini := by rfl
theorem p_k02_Interface_eqq : P_k02 ("Interface" ++ ".__eq__") = some b_Interface_eqq := by rfl
theorem p_k02_Interface_size : P_k02 ("Interface" ++ "." ++ "size") = some b_Interface_size := by rfl
theorem p_k02_law_unlike : P_k02 "_law_unlike" = some b_law_unlike_k02 := by rfl
theorem p_k02_law_same__hot : P_k02 "_law_same__hot" = some b_law_same__hot := by rfl
theorem p_k02_law_fits : P_k02 "_law_fits" = some b_law_fits := by rfl
theorem p_k02_law_bad : P_k02 "_law_bad" = some b_law_bad := by rfl
theorem p_k02_law_draw : P_k02 "_law_draw" = some b_law_draw := by rfl
theorem p_k02_law_rows : P_k02 "_law_rows" = some b_law_rows_k02h := by rfl
theorem p_k02_law_drawn_rows : P_k02 "_law_drawn_rows" = some b_law_drawn_rows_k02h := by rfl
theorem p_k02_law_pool : P_k02 "_law_pool" = some b_law_pool := by rfl
theorem p_k02_law : P_k02 "law" = some b_law_k02 := by rfl
end IX
set_option Elab.async false
set_option linter.all false
set_option maxRecDepth 100000
/-! ## The laws' draws (own text) -/
namespace IA
set_option hygiene false in
local macro_rules | `(tactic| fail "st") => `(tactic| first | simp only [hp, r_c, r_var, r_op, r_lst, r_ix, r_bi, r_call, r_heap, t_op, t_and, b_nil, b_cons, v_nil, v_cons, g_name, g_sub, s_nil, s_cons, x_asg, x_ret, x_ifs, o_addI, o_sub, o_mul, o_fdiv, o_mod, o_pow, o_lt, o_le, o_gt, o_ge, o_eqI, if_f, tr_b, va_v, kp_v, kp_n, li_r, sc_l, se_s, bi_lenL, bi_intI, bi_list, bi_min2, ix_l, ix_r, at_0, at_1, at_2, at_3, at_4, at_5, st_set, su_i, put_r, hp_get, hp_set, fl_n, fl_r, ou_r, ca_G, re_t, u_kOp1, u_kOp2, u_kLst, u_kIx1, u_kBi, u_kB1, u_kB2, u_kV1, u_kV2, u_kV3, u_kSub1, u_kSub2, u_kNx, u_kAsg, u_kRt, u_kRetS, u_kNw, kHeap, u_kPut, u_kPut1, ixl_1, ixl_2, ixl_3, ixl_4, ixl_5, kO_some, true_and, List.length_cons, List.length_nil, List.getElem?_cons_zero, List.getElem?_cons_succ, List.set_cons_zero, List.set_cons_succ, Nat.reduceAdd, szL, Nat.reduceLeDiff, List.nil_append, List.cons_append, if_pos, Int.reduceToNat, List.length_map] | simp only [r_c, r_var, r_op, r_lst, r_ix, r_bi, r_call, r_heap, t_op, t_and, b_nil, b_cons, v_nil, v_cons, g_name, g_sub, s_nil, s_cons, x_asg, x_ret, x_ifs, o_addI, o_sub, o_mul, o_fdiv, o_mod, o_pow, o_lt, o_le, o_gt, o_ge, o_eqI, if_f, tr_b, va_v, kp_v, kp_n, li_r, sc_l, se_s, bi_lenL, bi_intI, bi_list, bi_min2, ix_l, ix_r, at_0, at_1, at_2, at_3, at_4, at_5, st_set, su_i, put_r, hp_get, hp_set, fl_n, fl_r, ou_r, ca_G, re_t, u_kOp1, u_kOp2, u_kLst, u_kIx1, u_kBi, u_kB1, u_kB2, u_kV1, u_kV2, u_kV3, u_kSub1, u_kSub2, u_kNx, u_kAsg, u_kRt, u_kRetS, u_kNw, kHeap, u_kPut, u_kPut1, ixl_1, ixl_2, ixl_3, ixl_4, ixl_5, kO_some, true_and, List.length_cons, List.length_nil, List.getElem?_cons_zero, List.getElem?_cons_succ, List.set_cons_zero, List.set_cons_succ, Nat.reduceAdd, szL, Nat.reduceLeDiff, List.nil_append, List.cons_append, if_pos, Int.reduceToNat, List.length_map])
set_option hygiene false in
local macro_rules | `(tactic| fail "qs") => `(tactic| first
  | with_reducible refine if_s (fun hq => ?_) (fun hq => ?_)
  | with_reducible refine at_s (fun hq => ?_) (fun hq => ?_)
  | with_reducible refine ot_s (fun hq => ?_) (fun hq => ?_)
  | with_reducible refine it_s (fun hq => ?_) (fun hq => ?_)
  | with_reducible refine ad_s (fun hq => ?_) (fun hq => ?_)
  | with_reducible refine or_s (fun hq => ?_) (fun hq => ?_)
  | with_reducible refine ch_s (fun hq => ?_) (fun hq => ?_)
  | with_reducible refine c1_s (fun hq => ?_) (fun hq => ?_))
local macro_rules | `(tactic| fail "sd") => `(tactic| first
  | assumption
  | omega
  | exact smR (by omega) (by omega)
  | exact bdI (by omega) (by omega)
  | exact And.intro (bdI (by omega) (by omega)) (bdI (by omega) (by omega))
  | exact smL (by omega) (by omega)
  | decide)
set_option hygiene false in
local macro_rules | `(tactic| fail "g1") => `(tactic| first
  | fail "st"
  | (fail "qs" <;> (try simp only [decide_eq_true_eq, decide_eq_false_iff_not, Bool.not_eq_true', Bool.not_eq_false', beq_iff_eq, bne_iff_ne, ne_eq, Int.not_le, Int.not_lt] at hq))
  | ((with_reducible apply And.intro); (case left => fail "sd"))
  | fail "none")
set_option hygiene false in
local macro_rules | `(tactic| fail "go") => `(tactic| repeat' fail "g1")
set_option hygiene false in
local macro_rules | `(tactic| fail "ha") => `(tactic| first
  | assumption
  | exact HasA.set (by assumption)
  | fail "none")
set_option hygiene false in
local macro_rules | `(tactic| fail "dr") => `(tactic| first
  | (with_reducible refine draw_A hD (by fail "ha") (by omega) (by omega) ?_; intro v c hc hv0 hv1)
  | (with_reducible refine spend_A hS (by fail "ha") ?_; intro b c hc)
  | (with_reducible refine number_A hD hN (by fail "ha") ?_; intro v c hc hv0 hv1)
  | (with_reducible refine few_A hD hF (by fail "ha") (by omega) (by omega) ?_; intro v c hc hv0 hv1)
  | fail "none")
set_option hygiene false in
local macro_rules | `(tactic| fail "gd") => `(tactic| repeat' (first | fail "g1" | fail "dr" | fail "none"))

/-- a pool's cell: the script ns, the budget e -/
def PoolC (ns : List Int) (e : Int) (c : Cell) : Prop := ∃ a b d f : Int, c = .lst [.lst (ns.map .int), .int a, .int b, .int d, .int f, .int e] ∧ 0 ≤ a
section
variable {P : Prog} {lim k : Nat} {h : AHeap} {p : Nat} {ns : List Int} {e n : Int} {Φ : Val → AHeap → Prop} {Ψ : String → Val → AHeap → Prop}
theorem draw_spec (hP : P "_law_draw" = some IX.b_law_draw) (hp : ∃ c, h.c p = some c ∧ PoolC ns e c) (h0 : 0 < n) (h1 : n < 1073741824)
    (hΦ : ∀ v c, PoolC ns e c → 0 ≤ v → v < n → Φ (.int v) (h.set p c)) : WR P lim (k + 1) "_law_draw" [.ref p, .int n] h Φ Ψ := by
  obtain ⟨c, hp, a, b, d, f, rfl, ha⟩ := hp
  rw [r_enter hP rfl]
  unfold IX.b_law_draw start
  simp only [List.map_cons, List.map_nil, List.cons_append, List.nil_append, Nat.reduceSub, List.replicate]
  have fin : ∀ (v a b d f : Int), 0 ≤ a → Φ (.int (v % n)) (h.set p (.lst [.lst (ns.map .int), .int a, .int b, .int d, .int f, .int e])) := fun v a b d f ha =>
    hΦ _ _ ⟨_, _, _, _, rfl, ha⟩ (Int.emod_nonneg _ (by omega)) (Int.emod_lt_of_pos _ h0)
  fail "go"
  all_goals first
  | exact fin _ _ _ _ _ ha
  | (obtain ⟨i, rfl⟩ := Int.eq_ofNat_of_zero_le ha
     rw [at_n (by rw [List.length_map]; omega)]
     rw [List.getElem_map]
     fail "go"
     all_goals exact fin _ _ _ _ _ (by omega))
theorem pool_spec (hP : P "_law_pool" = some IX.b_law_pool) (hΦ : PoolC ns e (.lst [.lst (ns.map .int), .int 0, .int 0, .int 1, .int 0, .int e]) → Φ (.ref h.next) (h.new (.lst [.lst (ns.map .int), .int 0, .int 0, .int 1, .int 0, .int e]))) :
    WR P lim (k + 1) "_law_pool" [.scr (ns.map .int), .int e] h Φ Ψ := by
  rw [r_enter hP rfl]
  unfold IX.b_law_pool start
  simp only [List.map_cons, List.map_nil, List.cons_append, List.nil_append, Nat.reduceSub, List.replicate]
  fail "go"
  exact hΦ ⟨_, _, _, _, rfl, by omega⟩
theorem spend_spec (hP : P "_law_spend" = some IX.b_law_spend) (hp : ∃ c, h.c p = some c ∧ PoolC ns e c)
    (hΦ : ∀ c, PoolC ns (e - 1) c → Φ (.bl (decide (0 ≤ e - 1))) (h.set p c)) : WR P lim (k + 1) "_law_spend" [.ref p] h Φ Ψ := by
  obtain ⟨c, hp, a, b, d, f, rfl, ha⟩ := hp
  rw [r_enter hP rfl]
  unfold IX.b_law_spend start
  simp only [List.map_cons, List.map_nil, List.cons_append, List.nil_append, Nat.reduceSub, List.replicate]
  fail "go"
  exact hΦ _ ⟨_, _, _, _, rfl, ha⟩
/-- the pool is at p -/
abbrev HasPool (h : AHeap) (p : Nat) (ns : List Int) (e : Int) : Prop := ∃ c, h.c p = some c ∧ PoolC ns e c
theorem HasPool.set {c : Cell} (hc : PoolC ns e c) : HasPool (h.set p c) p ns e := ⟨c, hp_get c, hc⟩
theorem few_spec (hD : P "_law_draw" = some IX.b_law_draw) (hP : P "_law_few" = some IX.b_law_few) (hp : HasPool h p ns e) (h0 : 0 ≤ n) (h1 : n < 1073741823)
    (hΦ : ∀ v c, PoolC ns e c → 0 ≤ v → v ≤ n → Φ (.int v) (h.set p c)) : WR P lim (k + 2) "_law_few" [.ref p, .int n] h Φ Ψ := by
  rw [r_enter hP rfl]
  unfold IX.b_law_few start
  simp only [List.map_cons, List.map_nil, List.cons_append, List.nil_append, Nat.reduceSub, List.replicate]
  fail "go"
  refine draw_spec hD hp (by omega) (by omega) fun v c hc hv0 hv1 => ?_
  fail "go"
  · refine draw_spec hD (HasPool.set hc) (by omega) (by omega) fun v2 c2 hc2 hw0 hw1 => ?_
    fail "go"
    exact hΦ _ _ hc2 hw0 (by omega)
  · split
    · exact hΦ _ _ hc (by omega) (by omega)
    · exact hΦ _ _ hc (by omega) (by omega)
theorem number_spec (hD : P "_law_draw" = some IX.b_law_draw) (hP : P "_law_number" = some IX.b_law_number) (hp : HasPool h p ns e)
    (hΦ : ∀ v c, PoolC ns e c → 0 ≤ v → v < 65536 → Φ (.int v) (h.set p c)) : WR P lim (k + 2) "_law_number" [.ref p] h Φ Ψ := by
  rw [r_enter hP rfl]
  unfold IX.b_law_number start
  simp only [List.map_cons, List.map_nil, List.cons_append, List.nil_append, Nat.reduceSub, List.replicate]
  fail "go"
  refine draw_spec hD hp (by omega) (by omega) fun v c hc hv0 hv1 => ?_
  fail "go"
  all_goals
    refine draw_spec hD (HasPool.set hc) (by omega) (by omega) fun v2 c2 hc2 hw0 hw1 => ?_
    fail "go"
    exact hΦ _ _ hc2 hw0 (by omega)
end
end IA

set_option Elab.async false
set_option linter.all false
set_option maxRecDepth 100000
/-! ## The laws' comparison of data (own text) -/
namespace IA
set_option hygiene false in
local macro_rules | `(tactic| fail "st") => `(tactic| first | simp only [hp, r_c, r_var, r_op, r_isn, r_and, r_or, r_not, r_ix, r_bi, r_isi, r_call, t_op, t_isn, t_isi, t_call, t_or, t_not, b_nil, b_cons, v_nil, v_cons, i_rng, g_name, s_nil, s_cons, x_ret, x_ifs, x_for, o_eqI, o_neI, o_eqS, o_eqB, o_neB, o_eqNN, if_t, if_f, ot_t, ot_f, nt, tr_b, in_n, in_b, in_i, in_s, in_t, in_l, in_o, in_r, va_v, kp_v, pk_n, pk_b, pk_i, pk_s, pk_t, pk_l, pk_ob, is_1, bi_lenT, bi_lenL, ix_t, ix_l, st_set, fl_n, fl_r, ou_r, ca_G, re_t, fo_x, ki_n, ki_r, u_kOp1, u_kOp2, and_t, and_f, or_t, or_f, Bool.true_beq, Bool.false_beq, beq_self_eq_true, kNot, u_kIx1, u_kBi, u_kBl, u_kB1, u_kB2, u_kV1, u_kV2, u_kV3, kRng, u_kRt, u_kRetS, u_kI1, u_kIs1, kO_some, List.length_cons, List.length_nil, List.getElem?_cons_zero, List.getElem?_cons_succ, List.set_cons_zero, List.set_cons_succ, Nat.reduceAdd, Nat.reduceLeDiff, ofT, List.nil_append, List.cons_append, decide_true, Bool.not_true, Bool.not_false, if_pos, Int.reduceToNat] | simp only [r_c, r_var, r_op, r_isn, r_and, r_or, r_not, r_ix, r_bi, r_isi, r_call, t_op, t_isn, t_isi, t_call, t_or, t_not, b_nil, b_cons, v_nil, v_cons, i_rng, g_name, s_nil, s_cons, x_ret, x_ifs, x_for, o_eqI, o_neI, o_eqS, o_eqB, o_neB, o_eqNN, if_t, if_f, ot_t, ot_f, nt, tr_b, in_n, in_b, in_i, in_s, in_t, in_l, in_o, in_r, va_v, kp_v, pk_n, pk_b, pk_i, pk_s, pk_t, pk_l, pk_ob, is_1, bi_lenT, bi_lenL, ix_t, ix_l, st_set, fl_n, fl_r, ou_r, ca_G, re_t, fo_x, ki_n, ki_r, u_kOp1, u_kOp2, and_t, and_f, or_t, or_f, Bool.true_beq, Bool.false_beq, beq_self_eq_true, kNot, u_kIx1, u_kBi, u_kBl, u_kB1, u_kB2, u_kV1, u_kV2, u_kV3, kRng, u_kRt, u_kRetS, u_kI1, u_kIs1, kO_some, List.length_cons, List.length_nil, List.getElem?_cons_zero, List.getElem?_cons_succ, List.set_cons_zero, List.set_cons_succ, Nat.reduceAdd, Nat.reduceLeDiff, ofT, List.nil_append, List.cons_append, decide_true, Bool.not_true, Bool.not_false, if_pos, Int.reduceToNat])
set_option hygiene false in
local macro_rules | `(tactic| fail "qs") => `(tactic| first
  | with_reducible refine if_s (fun hq => ?_) (fun hq => ?_)
  | with_reducible refine at_s (fun hq => ?_) (fun hq => ?_)
  | with_reducible refine ot_s (fun hq => ?_) (fun hq => ?_)
  | with_reducible refine it_s (fun hq => ?_) (fun hq => ?_)
  | with_reducible refine ad_s (fun hq => ?_) (fun hq => ?_)
  | with_reducible refine or_s (fun hq => ?_) (fun hq => ?_)
  | with_reducible refine ch_s (fun hq => ?_) (fun hq => ?_)
  | with_reducible refine c1_s (fun hq => ?_) (fun hq => ?_))
local macro_rules | `(tactic| fail "sd") => `(tactic| first
  | assumption
  | omega
  | exact smR (by omega) (by omega)
  | exact bdI (by omega) (by omega)
  | exact And.intro (bdI (by omega) (by omega)) (bdI (by omega) (by omega))
  | exact smL (by omega) (by omega)
  | decide)
set_option hygiene false in
local macro_rules | `(tactic| fail "g1") => `(tactic| first
  | fail "st"
  | (fail "qs" <;> (try simp only [decide_eq_true_eq, decide_eq_false_iff_not, Bool.not_eq_true', Bool.not_eq_false', beq_iff_eq, bne_iff_ne, ne_eq, Int.not_le, Int.not_lt] at hq))
  | ((with_reducible apply And.intro); (case left => fail "sd"))
  | fail "none")
set_option hygiene false in
local macro_rules | `(tactic| fail "go") => `(tactic| repeat' fail "g1")
set_option hygiene false in
local macro_rules | `(tactic| fail "ha") => `(tactic| first
  | assumption
  | exact HasA.set (by assumption)
  | fail "none")
set_option hygiene false in
local macro_rules | `(tactic| fail "dr") => `(tactic| first
  | (with_reducible refine draw_A hD (by fail "ha") (by omega) (by omega) ?_; intro v c hc hv0 hv1)
  | (with_reducible refine spend_A hS (by fail "ha") ?_; intro b c hc)
  | (with_reducible refine number_A hD hN (by fail "ha") ?_; intro v c hc hv0 hv1)
  | (with_reducible refine few_A hD hF (by fail "ha") (by omega) (by omega) ?_; intro v c hc hv0 hv1)
  | fail "none")
set_option hygiene false in
local macro_rules | `(tactic| fail "gd") => `(tactic| repeat' (first | fail "g1" | fail "dr" | fail "none"))

mutual
/-- data: no objects within -/
def dat : Val → Bool
  | .non | .bl _ | .int _ | .str _ => true
  | .tup xs | .lst xs => decide (xs.length < 1152921504606846976) && datL xs
  | _ => false
def datL : List Val → Bool
  | [] => true
  | a :: as => dat a && datL as
end
theorem datL_get : ∀ {xs : List Val} {i : Nat} {x : Val}, datL xs = true → xs[i]? = some x → dat x = true
  | [], _, _, _, e => by simp at e
  | y :: xs, 0, x, h, e => by
    simp only [datL, Bool.and_eq_true] at h
    simp at e; subst e; exact h.1
  | y :: xs, i + 1, x, h, e => by
    simp only [datL, Bool.and_eq_true] at h
    exact datL_get (i := i) h.2 (by simpa using e)
theorem depL_get : ∀ {xs : List Val} {i : Nat} {x : Val}, xs[i]? = some x → dep x ≤ depL xs
  | [], _, _, e => by simp at e
  | y :: xs, 0, x, e => by
    simp at e; subst e
    simp only [depL]; omega
  | y :: xs, i + 1, x, e => by
    have := depL_get (xs := xs) (i := i) (x := x) (by simpa using e)
    simp only [depL]; omega
theorem veqL_all : ∀ {xs ys : List Val}, xs.length = ys.length → (∀ (i : Nat) x y, xs[i]? = some x → ys[i]? = some y → veq x y = true) → veqL xs ys = true
  | [], [], _, _ => rfl
  | [], _ :: _, h, _ => by simp at h
  | _ :: _, [], h, _ => by simp at h
  | x :: xs, y :: ys, h, f => by
    simp only [veqL, Bool.and_eq_true]
    exact ⟨f 0 x y rfl rfl, veqL_all (by simpa using h) fun i a b h1 h2 => f (i + 1) a b (by simpa using h1) (by simpa using h2)⟩
theorem veqL_ne : ∀ {xs ys : List Val} {i : Nat} {x y : Val}, xs[i]? = some x → ys[i]? = some y → veq x y = false → veqL xs ys = false
  | [], _, _, _, _, h, _, _ => by simp at h
  | _ :: _, [], _, _, _, _, h, _ => by simp at h
  | x :: xs, y :: ys, 0, a, b, h1, h2, f => by
    simp at h1 h2; subst h1; subst h2
    simp [veqL, f]
  | x :: xs, y :: ys, i + 1, a, b, h1, h2, f => by
    simp [veqL, veqL_ne (i := i) (by simpa using h1) (by simpa using h2) f]
theorem veqL_len : ∀ {xs ys : List Val}, xs.length ≠ ys.length → veqL xs ys = false
  | [], [], h => absurd rfl h
  | [], _ :: _, _ => rfl
  | _ :: _, [], _ => rfl
  | x :: xs, y :: ys, h => by simp [veqL, veqL_len (xs := xs) (ys := ys) (by simpa using h)]
mutual
theorem veq_refl : ∀ {x : Val}, dat x = true → veq x x = true
  | .non, _ => rfl
  | .bl b, _ => by cases b <;> rfl
  | .int i, _ => by simp [veq]
  | .str z, _ => by simp [veq]
  | .tup xs, h => by simp only [veq]; exact veqL_refl (by simp only [dat, Bool.and_eq_true] at h; exact h.2)
  | .lst xs, h => by simp only [veq]; exact veqL_refl (by simp only [dat, Bool.and_eq_true] at h; exact h.2)
  | .obj _ _, h => by simp [dat] at h
  | .ref _, h => by simp [dat] at h
  | .scr _, h => by simp [dat] at h
theorem veqL_refl : ∀ {xs : List Val}, datL xs = true → veqL xs xs = true
  | [], _ => rfl
  | x :: xs, h => by
    simp only [datL, Bool.and_eq_true] at h
    simp [veqL, veq_refl h.1, veqL_refl h.2]
end
theorem rngL_get : ∀ (n : Nat) (lo : Int) (i : Nat), (rngL lo n)[i]? = if i < n then some (.int (lo + i)) else none := by
  intro n
  induction n with
  | zero => intro lo i; simp [rngL]
  | succ n ih =>
    intro lo i
    cases i with
    | zero => simp [rngL]
    | succ i =>
      simp only [rngL, List.getElem?_cons_succ, ih]
      by_cases h : i < n
      · rw [if_pos h, if_pos (by omega)]
        congr 2
        omega
      · rw [if_neg h, if_neg (by omega)]
theorem rngL_len : ∀ (n : Nat) (lo : Int), (rngL lo n).length = n
  | 0, _ => rfl
  | n + 1, lo => by simp [rngL, rngL_len n]
theorem rngL_some {lo : Int} {n i : Nat} {x : Val} (h : (rngL lo n)[i]? = some x) : i < n ∧ x = .int (lo + i) := by
  rw [rngL_get] at h
  split at h
  · cases h; exact ⟨by assumption, rfl⟩
  · cases h
section
variable {P : Prog} {lim : Nat}
theorem same_spec (hP : P "_law_same" = some IX.b_law_same) : ∀ (k : Nat) (a b : Val) (h : AHeap) (Φ : Val → AHeap → Prop) (Ψ : String → Val → AHeap → Prop), dat a = true → dat b = true → dep b < k → Φ (.bl (veq a b)) h → WR P lim k "_law_same" [a, b] h Φ Ψ := by
  intro k
  induction k with
  | zero => intro a b h Φ Ψ _ _ hd; omega
  | succ k ih =>
    intro a b h Φ Ψ da db hd hΦ
    rw [r_enter hP rfl]
    unfold IX.b_law_same start
    simp only [List.map_cons, List.map_nil, List.cons_append, List.nil_append, Nat.reduceSub, List.replicate]
    cases b with
    | non =>
      cases a
      all_goals fail "go"
      all_goals first
      | exact hΦ
      | (simp [dat] at da)
    | bl b =>
      cases a
      all_goals fail "go"
      all_goals first
      | exact hΦ
      | (simp [dat] at da)
    | int b =>
      cases a
      all_goals fail "go"
      all_goals first
      | exact hΦ
      | (simp [dat] at da)
    | str b =>
      cases a
      all_goals fail "go"
      all_goals first
      | exact hΦ
      | (simp [dat] at da)
    | tup ys =>
      cases a with
      | tup xs =>
        simp only [dat, Bool.and_eq_true, decide_eq_true_eq] at da db
        simp only [dep] at hd
        fail "go"
        · have e : veqL xs ys = false := veqL_len (by omega)
          simp only [veq, e] at hΦ
          exact hΦ
        · have hl : xs.length = ys.length := by omega
          refine WF_inv (fun i s => (∃ x, s = ⟨[some (.v (.tup xs)), some (.v (.tup ys)), x], h⟩) ∧ ∀ j, j < i → ∀ x y, xs[j]? = some x → ys[j]? = some y → veq x y = true) ⟨⟨_, rfl⟩, fun j hj => by omega⟩ ?_ ?_
          · rintro i x s hx ⟨⟨z, rfl⟩, hj⟩
            obtain ⟨hi, rfl⟩ := rngL_some hx
            rw [Int.toNat_natCast] at hi
            rw [Int.zero_add]
            fail "go"
            rw [at_n (by omega)]
            fail "go"
            rw [at_n (by omega)]
            fail "go"
            have ex : xs[i]? = some xs[i] := List.getElem?_eq_getElem (by omega)
            have ey : ys[i]? = some ys[i] := List.getElem?_eq_getElem (by omega)
            refine ih _ _ _ _ _ (datL_get da.2 ex) (datL_get db.2 ey) (by have := depL_get ey; omega) ?_
            fail "go"
            · have e : veqL xs ys = false := veqL_ne ex ey (by simpa using hq)
              simp only [veq, e] at hΦ
              exact hΦ
            · refine ⟨⟨_, rfl⟩, fun j hj2 x y h1 h2 => ?_⟩
              by_cases e : j = i
              · subst e
                rw [ex] at h1
                rw [ey] at h2
                cases h1
                cases h2
                simpa using hq
              · exact hj j (by omega) x y h1 h2
          · rintro s ⟨⟨z, rfl⟩, hj⟩
            fail "go"
            have e : veqL xs ys = true := veqL_all hl fun i x y h1 h2 => hj i (by rw [rngL_len]; have := (List.getElem?_eq_some_iff.mp h2).1; omega) x y h1 h2
            simp only [veq, e] at hΦ
            exact hΦ
      | _ =>
        fail "go"
        all_goals first
        | exact hΦ
        | (simp [dat] at da)
    | lst ys =>
      cases a with
      | lst xs =>
        simp only [dat, Bool.and_eq_true, decide_eq_true_eq] at da db
        simp only [dep] at hd
        fail "go"
        · have e : veqL xs ys = false := veqL_len (by omega)
          simp only [veq, e] at hΦ
          exact hΦ
        · have hl : xs.length = ys.length := by omega
          refine WF_inv (fun i s => (∃ x, s = ⟨[some (.v (.lst xs)), some (.v (.lst ys)), x], h⟩) ∧ ∀ j, j < i → ∀ x y, xs[j]? = some x → ys[j]? = some y → veq x y = true) ⟨⟨_, rfl⟩, fun j hj => by omega⟩ ?_ ?_
          · rintro i x s hx ⟨⟨z, rfl⟩, hj⟩
            obtain ⟨hi, rfl⟩ := rngL_some hx
            rw [Int.toNat_natCast] at hi
            rw [Int.zero_add]
            fail "go"
            rw [at_n (by omega)]
            fail "go"
            rw [at_n (by omega)]
            fail "go"
            have ex : xs[i]? = some xs[i] := List.getElem?_eq_getElem (by omega)
            have ey : ys[i]? = some ys[i] := List.getElem?_eq_getElem (by omega)
            refine ih _ _ _ _ _ (datL_get da.2 ex) (datL_get db.2 ey) (by have := depL_get ey; omega) ?_
            fail "go"
            · have e : veqL xs ys = false := veqL_ne ex ey (by simpa using hq)
              simp only [veq, e] at hΦ
              exact hΦ
            · refine ⟨⟨_, rfl⟩, fun j hj2 x y h1 h2 => ?_⟩
              by_cases e : j = i
              · subst e
                rw [ex] at h1
                rw [ey] at h2
                cases h1
                cases h2
                simpa using hq
              · exact hj j (by omega) x y h1 h2
          · rintro s ⟨⟨z, rfl⟩, hj⟩
            fail "go"
            have e : veqL xs ys = true := veqL_all hl fun i x y h1 h2 => hj i (by rw [rngL_len]; have := (List.getElem?_eq_some_iff.mp h2).1; omega) x y h1 h2
            simp only [veq, e] at hΦ
            exact hΦ
      | _ =>
        fail "go"
        all_goals first
        | exact hΦ
        | (simp [dat] at da)
    | obj C fs => simp [dat] at db
    | ref n => simp [dat] at db
    | scr xs => simp [dat] at db
end
end IA

set_option Elab.async false
set_option linter.all false
set_option maxRecDepth 100000
/-! ## The laws' draws, whatever is left (own text) -/
namespace IA
set_option hygiene false in
local macro_rules | `(tactic| fail "st") => `(tactic| first | simp only [hp, Nat.reduceAdd, Nat.reduceLeDiff, Int.reduceToNat] | simp only [Nat.reduceAdd, Nat.reduceLeDiff, Int.reduceToNat])
set_option hygiene false in
local macro_rules | `(tactic| fail "qs") => `(tactic| first
  | with_reducible refine if_s (fun hq => ?_) (fun hq => ?_)
  | with_reducible refine at_s (fun hq => ?_) (fun hq => ?_)
  | with_reducible refine ot_s (fun hq => ?_) (fun hq => ?_)
  | with_reducible refine it_s (fun hq => ?_) (fun hq => ?_)
  | with_reducible refine ad_s (fun hq => ?_) (fun hq => ?_)
  | with_reducible refine or_s (fun hq => ?_) (fun hq => ?_)
  | with_reducible refine ch_s (fun hq => ?_) (fun hq => ?_)
  | with_reducible refine c1_s (fun hq => ?_) (fun hq => ?_))
local macro_rules | `(tactic| fail "sd") => `(tactic| first
  | assumption
  | omega
  | exact smR (by omega) (by omega)
  | exact bdI (by omega) (by omega)
  | exact And.intro (bdI (by omega) (by omega)) (bdI (by omega) (by omega))
  | exact smL (by omega) (by omega)
  | decide)
set_option hygiene false in
local macro_rules | `(tactic| fail "g1") => `(tactic| first
  | fail "st"
  | (fail "qs" <;> (try simp only [decide_eq_true_eq, decide_eq_false_iff_not, Bool.not_eq_true', Bool.not_eq_false', beq_iff_eq, bne_iff_ne, ne_eq, Int.not_le, Int.not_lt] at hq))
  | ((with_reducible apply And.intro); (case left => fail "sd"))
  | fail "none")
set_option hygiene false in
local macro_rules | `(tactic| fail "go") => `(tactic| repeat' fail "g1")
set_option hygiene false in
local macro_rules | `(tactic| fail "ha") => `(tactic| first
  | assumption
  | exact HasA.set (by assumption)
  | fail "none")
set_option hygiene false in
local macro_rules | `(tactic| fail "dr") => `(tactic| first
  | (with_reducible refine draw_A hD (by fail "ha") (by omega) (by omega) ?_; intro v c hc hv0 hv1)
  | (with_reducible refine spend_A hS (by fail "ha") ?_; intro b c hc)
  | (with_reducible refine number_A hD hN (by fail "ha") ?_; intro v c hc hv0 hv1)
  | (with_reducible refine few_A hD hF (by fail "ha") (by omega) (by omega) ?_; intro v c hc hv0 hv1)
  | fail "none")
set_option hygiene false in
local macro_rules | `(tactic| fail "gd") => `(tactic| repeat' (first | fail "g1" | fail "dr" | fail "none"))

/-- a pool, whatever is left -/
def PoolA (ns : List Int) (c : Cell) : Prop := ∃ e, PoolC ns e c
abbrev HasA (h : AHeap) (p : Nat) (ns : List Int) : Prop := ∃ c, h.c p = some c ∧ PoolA ns c
theorem HasA.set {h : AHeap} {p : Nat} {ns : List Int} {c : Cell} (hc : PoolA ns c) : HasA (h.set p c) p ns := ⟨c, hp_get c, hc⟩
section
variable {P : Prog} {lim k : Nat} {h : AHeap} {p : Nat} {ns : List Int} {n : Int} {Φ : Val → AHeap → Prop} {Ψ : String → Val → AHeap → Prop}
theorem draw_A (hP : P "_law_draw" = some IX.b_law_draw) (hp : HasA h p ns) (h0 : 0 < n) (h1 : n < 1073741824)
    (hΦ : ∀ v c, PoolA ns c → 0 ≤ v → v < n → Φ (.int v) (h.set p c)) : WR P lim (k + 1) "_law_draw" [.ref p, .int n] h Φ Ψ := by
  obtain ⟨c, hc, e, he⟩ := hp
  exact draw_spec hP ⟨c, hc, he⟩ h0 h1 fun v c hc => hΦ v c ⟨e, hc⟩
theorem spend_A (hP : P "_law_spend" = some IX.b_law_spend) (hp : HasA h p ns) (hΦ : ∀ b c, PoolA ns c → Φ (.bl b) (h.set p c)) : WR P lim (k + 1) "_law_spend" [.ref p] h Φ Ψ := by
  obtain ⟨c, hc, e, he⟩ := hp
  exact spend_spec hP ⟨c, hc, he⟩ fun c hc => hΦ _ c ⟨_, hc⟩
theorem number_A (hD : P "_law_draw" = some IX.b_law_draw) (hP : P "_law_number" = some IX.b_law_number) (hp : HasA h p ns)
    (hΦ : ∀ v c, PoolA ns c → 0 ≤ v → v < 65536 → Φ (.int v) (h.set p c)) : WR P lim (k + 2) "_law_number" [.ref p] h Φ Ψ := by
  obtain ⟨c, hc, e, he⟩ := hp
  exact number_spec hD hP ⟨c, hc, he⟩ fun v c hc => hΦ v c ⟨e, hc⟩
theorem few_A (hD : P "_law_draw" = some IX.b_law_draw) (hP : P "_law_few" = some IX.b_law_few) (hp : HasA h p ns) (h0 : 0 ≤ n) (h1 : n < 1073741823)
    (hΦ : ∀ v c, PoolA ns c → 0 ≤ v → v ≤ n → Φ (.int v) (h.set p c)) : WR P lim (k + 2) "_law_few" [.ref p, .int n] h Φ Ψ := by
  obtain ⟨c, hc, e, he⟩ := hp
  exact few_spec hD hP ⟨c, hc, he⟩ h0 h1 fun v c hc => hΦ v c ⟨e, hc⟩
end
end IA

set_option Elab.async false
set_option linter.all false
set_option maxRecDepth 100000
set_option maxHeartbeats 4000000
/-! ## Rows of interfaces; the object Interface (own text) -/
namespace IA
set_option hygiene false in
local macro_rules | `(tactic| fail "st") => `(tactic| first | simp only [hp, r_c, r_var, r_op, r_tup, r_lst, r_ix, r_rev, r_bi, r_bm, r_call, t_c, t_op, t_and, b_nil, b_cons, v_nil, v_cons, i_rng, g_name, g_nameN, s_nil, s_cons, x_asg, x_ret, x_ex, x_ifs, x_for, r_comp, o_addI, o_lt, o_gt, o_eqI, o_neI, if_f, tr_b, va_v, va_o, kp_v, kp_o, ko_o, li_o, so_o, bi_lenO, bi_append, ix_o, st_set, put_o, hp_set, fl_n, fl_r, ou_r, ca_G, re_t, fo_x, co_x, ki_n, kj_t, u_kOp1, u_kOp2, u_kTup, u_kLst, u_kIx1, u_kRevL, u_kRev, u_kBi, u_kBm, u_kBm1, u_kB1, u_kB2, u_kV1, u_kV2, u_kV3, kRng, u_kNx, u_kAsg, u_kRt, u_kRetS, u_kEx, u_kI1, u_kJ0, u_kJ2, u_kJ3, u_kLen, u_kAp, wipe, kO_some, true_and, List.length_cons, List.length_nil, List.getElem?_cons_zero, List.getElem?_cons_succ, List.set_cons_zero, List.set_cons_succ, Nat.reduceAdd, szL, Nat.reduceLeDiff, List.nil_append, List.cons_append, recvOk, Option.isSome_some, Int.reduceToNat, List.length_map] | simp only [r_c, r_var, r_op, r_tup, r_lst, r_ix, r_rev, r_bi, r_bm, r_call, t_c, t_op, t_and, b_nil, b_cons, v_nil, v_cons, i_rng, g_name, g_nameN, s_nil, s_cons, x_asg, x_ret, x_ex, x_ifs, x_for, r_comp, o_addI, o_lt, o_gt, o_eqI, o_neI, if_f, tr_b, va_v, va_o, kp_v, kp_o, ko_o, li_o, so_o, bi_lenO, bi_append, ix_o, st_set, put_o, hp_set, fl_n, fl_r, ou_r, ca_G, re_t, fo_x, co_x, ki_n, kj_t, u_kOp1, u_kOp2, u_kTup, u_kLst, u_kIx1, u_kRevL, u_kRev, u_kBi, u_kBm, u_kBm1, u_kB1, u_kB2, u_kV1, u_kV2, u_kV3, kRng, u_kNx, u_kAsg, u_kRt, u_kRetS, u_kEx, u_kI1, u_kJ0, u_kJ2, u_kJ3, u_kLen, u_kAp, wipe, kO_some, true_and, List.length_cons, List.length_nil, List.getElem?_cons_zero, List.getElem?_cons_succ, List.set_cons_zero, List.set_cons_succ, Nat.reduceAdd, szL, Nat.reduceLeDiff, List.nil_append, List.cons_append, recvOk, Option.isSome_some, Int.reduceToNat, List.length_map])
set_option hygiene false in
local macro_rules | `(tactic| fail "qs") => `(tactic| first
  | with_reducible refine if_s (fun hq => ?_) (fun hq => ?_)
  | with_reducible refine at_s (fun hq => ?_) (fun hq => ?_)
  | with_reducible refine ot_s (fun hq => ?_) (fun hq => ?_)
  | with_reducible refine it_s (fun hq => ?_) (fun hq => ?_)
  | with_reducible refine ad_s (fun hq => ?_) (fun hq => ?_)
  | with_reducible refine or_s (fun hq => ?_) (fun hq => ?_)
  | with_reducible refine ch_s (fun hq => ?_) (fun hq => ?_)
  | with_reducible refine c1_s (fun hq => ?_) (fun hq => ?_))
local macro_rules | `(tactic| fail "sd") => `(tactic| first
  | assumption
  | omega
  | exact smR (by omega) (by omega)
  | exact bdI (by omega) (by omega)
  | exact And.intro (bdI (by omega) (by omega)) (bdI (by omega) (by omega))
  | exact smL (by omega) (by omega)
  | decide)
set_option hygiene false in
local macro_rules | `(tactic| fail "g1") => `(tactic| first
  | fail "st"
  | (fail "qs" <;> (try simp only [decide_eq_true_eq, decide_eq_false_iff_not, Bool.not_eq_true', Bool.not_eq_false', beq_iff_eq, bne_iff_ne, ne_eq, Int.not_le, Int.not_lt] at hq))
  | ((with_reducible apply And.intro); (case left => fail "sd"))
  | fail "none")
set_option hygiene false in
local macro_rules | `(tactic| fail "go") => `(tactic| repeat' fail "g1")
set_option hygiene false in
local macro_rules | `(tactic| fail "ha") => `(tactic| first
  | assumption
  | exact HasA.set (by assumption)
  | fail "none")
set_option hygiene false in
local macro_rules | `(tactic| fail "dr") => `(tactic| first
  | (with_reducible refine draw_A hD (by fail "ha") (by omega) (by omega) ?_; intro v c hc hv0 hv1)
  | (with_reducible refine spend_A hS (by fail "ha") ?_; intro b c hc)
  | (with_reducible refine number_A hD hN (by fail "ha") ?_; intro v c hc hv0 hv1)
  | (with_reducible refine few_A hD hF (by fail "ha") (by omega) (by omega) ?_; intro v c hc hv0 hv1)
  | fail "none")
set_option hygiene false in
local macro_rules | `(tactic| fail "gd") => `(tactic| repeat' (first | fail "g1" | fail "dr" | fail "none"))

abbrev Row := Int × List (Int × Int)
def pairV (q : Int × Int) : Val := .tup [.int q.1, .int q.2]
def Row.v (r : Row) : Val := .tup [.int r.1, .lst (r.2.map pairV)]
def rowsV (rs : List Row) : Val := .lst (rs.map Row.v)
/-- imports that fit the exports ex, of component k -/
structure ImpOk (ex : List Int) (k : Nat) (l : List (Int × Int)) : Prop where
  m : ∀ q, q ∈ l → 0 ≤ q.1 ∧ q.1 ≠ k ∧ 0 ≤ q.2 ∧ ∃ x, ex[q.1.toNat]? = some x ∧ q.2 < x
  nd : l.Nodup
  ln : l.length ≤ 5
structure RowsOk (m : Int) (rs : List Row) : Prop where
  l0 : 1 ≤ rs.length
  l1 : (rs.length : Int) ≤ m
  e : ∀ (i : Nat) r, rs[i]? = some r → 1 ≤ r.1 ∧ r.1 ≤ 3 ∧ ImpOk (rs.map Prod.fst) i r.2
section
variable {P : Prog} {lim k : Nat} {h : AHeap} {p : Nat} {ns : List Int} {n : Int} {Φ : Val → AHeap → Prop} {Ψ : String → Val → AHeap → Prop}
/-- what the inner loops keep: the pairs so far are below (o, w) -/
def Below (ex : List Int) (k o : Nat) (w : Int) (l : List (Int × Int)) : Prop :=
  (∀ q, q ∈ l → 0 ≤ q.1 ∧ q.1 ≠ k ∧ 0 ≤ q.2 ∧ (q.1 < o ∨ (q.1 = o ∧ q.2 < w)) ∧ ∃ x, ex[q.1.toNat]? = some x ∧ q.2 < x) ∧ l.Nodup ∧ l.length ≤ 5
theorem Below.add {ex : List Int} {k o : Nat} {w : Int} {l : List (Int × Int)} (b : Below ex k o w l) (hk : o ≠ k) (hw : 0 ≤ w) {x : Int} (hx : ex[o]? = some x) (hl : w < x) (ln : l.length < 5) : Below ex k o (w + 1) (l ++ [((o : Int), w)]) := by
  refine ⟨fun q hq => ?_, ?_, by rw [List.length_append]; simp only [List.length_cons, List.length_nil]; omega⟩
  · rcases List.mem_append.mp hq with hq | hq
    · obtain ⟨a, b, c, d, e⟩ := b.1 q hq
      exact ⟨a, b, c, by omega, e⟩
    · simp only [List.mem_cons, List.not_mem_nil, or_false] at hq
      subst hq
      exact ⟨by omega, by simp only; omega, hw, .inr ⟨rfl, by simp only; omega⟩, x, by simpa using hx, hl⟩
  · rw [List.nodup_append]
    refine ⟨b.2.1, by simp, fun a ha c hc => ?_⟩
    simp only [List.mem_cons, List.not_mem_nil, or_false] at hc
    subst hc
    intro e
    subst e
    obtain ⟨_, _, _, d, _⟩ := b.1 _ ha
    simp only at d
    omega
theorem Below.up {ex : List Int} {k o o2 : Nat} {w w2 : Int} {l : List (Int × Int)} (b : Below ex k o w l) (hh : o < o2 ∨ (o = o2 ∧ w ≤ w2)) : Below ex k o2 w2 l :=
  ⟨fun q hq => by obtain ⟨a, b, c, d, e⟩ := b.1 q hq; exact ⟨a, b, c, by omega, e⟩, b.2⟩
theorem Below.imp {ex : List Int} {k o : Nat} {w : Int} {l : List (Int × Int)} (b : Below ex k o w l) : ImpOk ex k l :=
  ⟨fun q hq => by obtain ⟨a, b, c, d, e⟩ := b.1 q hq; exact ⟨a, b, c, e⟩, b.2.1, b.2.2⟩
theorem ImpOk.rev {ex : List Int} {k : Nat} {l : List (Int × Int)} (b : ImpOk ex k l) : ImpOk ex k l.reverse :=
  ⟨fun q hq => b.m q (List.mem_reverse.mp hq), (List.reverse_perm l).nodup_iff.mpr b.nd, by rw [List.length_reverse]; exact b.ln⟩
end
end IA

set_option Elab.async false
set_option linter.all false
set_option maxRecDepth 100000
set_option maxHeartbeats 4000000
/-! ## Steps on objects (own text) -/
namespace IA
section
variable {P : Prog} {lim k : Nat} {Γ : Env} {s : St} {σ : List (Option SV)} {h : AHeap} {Φ : EV → St → Prop} {Ψ : XK} {ΦG : St → Prop}
variable {n m : Nat} {v w : Val} {vs ws : List Val} {f g C D : String} {fs : List (String × Val)} {cs ks : List String} {es : Es} {x : EV}
/-- a cell's field -/
def kCellF (Φ : EV → St → Prop) (f : String) (cs : List String) (s : St) : Option Cell → Prop
  | some (.ins C fs) => C ∈ cs ∧ kO (look f fs) (kVl Φ s)
  | _ => False
theorem fd_o : kO (fldE (.val (.obj C fs)) f cs s) (kVl Φ s) = (C ∈ cs ∧ kO (look f fs) (kVl Φ s)) := by
  simp only [fldE]
  split <;> simp [*, kO]
theorem fd_r : kO (fldE (.val (.ref n)) f cs ⟨σ, h⟩) (kVl Φ ⟨σ, h⟩) = kCellF Φ f cs ⟨σ, h⟩ (h.c n) := by
  simp only [fldE]
  cases h.c n with
  | none => rfl
  | some c =>
    cases c with
    | ins C fs =>
      simp only [kCellF]
      split <;> simp [*, kO]
    | lst xs => rfl
    | dct fs => rfl
theorem cf_i : kCellF Φ f cs s (some (.ins C fs)) = (C ∈ cs ∧ kO (look f fs) (kVl Φ s)) := Eq.trans rfl rfl
def kCellS (ΦG : St → Prop) (n : Nat) (f : String) (cs : List String) (v : Val) (σ : List (Option SV)) (h : AHeap) : Option Cell → Prop
  | some (.ins C fs) => (C ∈ cs ∧ fs.length < 1000) ∧ ΦG ⟨σ, h.set n (.ins C (putF f v fs))⟩
  | _ => False
theorem fs_r : kO (setFld (.val (.ref n)) f cs v ⟨σ, h⟩) ΦG = kCellS ΦG n f cs v σ h (h.c n) := by
  simp only [setFld]
  cases h.c n with
  | none => rfl
  | some c =>
    cases c with
    | ins C fs =>
      simp only [kCellS]
      split <;> simp [*, kO]
    | lst xs => rfl
    | dct fs => rfl
theorem cs_i : kCellS ΦG n f cs v σ h (some (.ins C fs)) = ((C ∈ cs ∧ fs.length < 1000) ∧ ΦG ⟨σ, h.set n (.ins C (putF f v fs))⟩) := Eq.trans rfl rfl
theorem pf_n : putF f v [] = [(f, v)] := Eq.trans rfl rfl
theorem pf_c : putF f v ((g, w) :: fs) = if g = f then (g, v) :: fs else (g, w) :: putF f v fs := Eq.trans rfl rfl
theorem hn_get (c : Cell) : (h.new c).c h.next = some c := by simp [AHeap.new]
theorem hn_get2 {c : Cell} (e : n = h.next) : (h.new c).c n = some c := by subst e; exact hn_get c
theorem hn_set (c d : Cell) : (h.new c).set h.next d = h.new d := by
  simp only [AHeap.new, AHeap.set]
  congr 1
  funext m
  split <;> rfl
theorem hn_next (c : Cell) : (h.new c).next = h.next + 1 := Eq.trans rfl rfl
theorem hs_next (c : Cell) : (h.set n c).next = h.next := Eq.trans rfl rfl
theorem hs_ne {c : Cell} (e : n ≠ m) : (h.set m c).c n = h.c n := by simp [AHeap.set, e]
theorem hn_ne {c : Cell} (e : n ≠ h.next) : (h.new c).c n = h.c n := by simp [AHeap.new, e]
def AHeap.bump (h : AHeap) : AHeap := ⟨h.c, h.next + 1⟩
theorem hb_c : h.bump.c n = h.c n := Eq.trans rfl rfl
theorem hb_next : h.bump.next = h.next + 1 := Eq.trans rfl rfl
/-- nothing lies at next and above -/
def AHeap.Fresh (h : AHeap) : Prop := ∀ n, h.next ≤ n → h.c n = none
theorem Fresh.bump (f : h.Fresh) : h.bump.Fresh := fun n hn => f n (by simp only [hb_next] at hn; omega)
theorem Fresh.new (f : h.Fresh) (c : Cell) : (h.new c).Fresh := fun n hn => by
  rw [hn_next] at hn
  rw [hn_ne (by omega)]
  exact f n (by omega)
theorem Fresh.lt (f : h.Fresh) {c : Cell} (e : h.c n = some c) : n < h.next := by
  by_cases q : n < h.next
  · exact q
  · have := f n (by omega)
    rw [e] at this
    cases this
theorem Fresh.set (f : h.Fresh) {c d : Cell} (e : h.c n = some d) : (h.set n c).Fresh := fun m hm => by
  rw [hs_next] at hm
  have := Fresh.lt f e
  rw [hs_ne (by omega)]
  exact f m hm
theorem hd_new (f : h.Fresh) (c : Cell) : (h.new c).del h.next = h.bump := by
  simp only [AHeap.new, AHeap.del, AHeap.bump]
  congr 1
  funext m
  split
  · subst m
    exact (f _ (Nat.le_refl _)).symm
  · rfl
theorem mk_G : kMk (G P lim k) Φ Ψ C vs ⟨σ, h⟩ = WR P lim k (C ++ ".__init__") (.ref h.next :: vs) (h.new (.ins C [])) (kMk1 Φ C h.next σ) (kExc Ψ σ) := Eq.trans rfl rfl
theorem mk_1 (hi : immC C = true) (f : h.Fresh) : kMk1 Φ C h.next σ .non (h.new (.ins C fs)) = Φ (.val (.obj C fs)) ⟨σ, h.bump⟩ := by
  simp only [kMk1, hi, if_true, hn_get, hd_new f, true_and]
theorem mk_m {hh : AHeap} (hi : immC C = false) : kMk1 Φ C n σ .non hh = Φ (.val (.ref n)) ⟨σ, hh⟩ := by
  simp [kMk1, hi]
theorem mk_F {hh : AHeap} : kMk1 Φ "Frame" n σ .non hh = Φ (.val (.ref n)) ⟨σ, hh⟩ := mk_m rfl
theorem ic_o : isC C g (.val (.obj D fs)) s = (decide (D = C) && (look g fs).isNone) := Eq.trans rfl rfl
def icCell (C g : String) : Option Cell → Bool
  | some (.ins D fs) => decide (D = C) && (look g fs).isNone
  | _ => false
theorem ic_c : isC C g (.val (.ref n)) ⟨σ, h⟩ = icCell C g (h.c n) := by
  simp only [isC]
  cases h.c n with
  | none => rfl
  | some c => cases c <;> rfl
theorem ic_i : icCell C g (some (.ins D fs)) = (decide (D = C) && (look g fs).isNone) := Eq.trans rfl rfl
theorem o_memT : W2 .mem (.val (.tup vs)) (.val (.tup ws)) s Φ Ψ = ((good (.tup vs) = true ∧ goodL ws = true ∧ dep (.tup vs) ≤ 60) ∧ Φ (.val (.bl (ws.any fun z => veq z (.tup vs)))) s) := W2_chk rfl
theorem o_nmemT : W2 .nmem (.val (.tup vs)) (.val (.tup ws)) s Φ Ψ = ((good (.tup vs) = true ∧ goodL ws = true ∧ dep (.tup vs) ≤ 60) ∧ Φ (.val (.bl (!ws.any fun z => veq z (.tup vs)))) s) := W2_chk rfl
def kPop (Φ : EV → St → Prop) (x : EV) (s : St) (xs : List Val) : Prop := kO xs.getLast? fun v => kO (x.put xs.dropLast s) fun s => Φ (.val v) s
theorem bi_pop : WBi .pop [x] s Φ Ψ = kO (x.list s) (kPop Φ x s) := by
  show W (Res.get (x.list s) fun xs => .get (xs.getLast?) fun v => .get (x.put xs.dropLast s) fun s => .ok (.val v) s) Φ Ψ = _
  simp only [W_get]; rfl
theorem pop_app {ws : List Val} : kPop Φ x s (ws ++ [v]) = kO (x.put ws s) fun s => Φ (.val v) s := by
  unfold kPop
  rw [List.getLast?_concat, List.dropLast_concat]
  rfl
theorem at_last {ws : List Val} : kAt Φ (-1) s (ws ++ [v]) = Φ (.val v) s := by
  unfold kAt atI
  have : ixN (ws ++ [v]).length (-1) = some ws.length := by
    unfold ixN
    rw [if_neg (by decide), List.length_append]
    simp only [List.length_cons, List.length_nil]
    rw [if_pos (by omega)]
    congr 1
    omega
  rw [this]
  simp only [Option.bind_some, List.getElem?_concat_length]
  rfl
theorem pop_one : kPop Φ x s [v] = kO (x.put [] s) fun s => Φ (.val v) s := pop_app (ws := [])
theorem at_lone : kAt Φ (-1) s [v] = Φ (.val v) s := at_last (ws := [])
def kTrL (ΦT : Bool → St → Prop) (s : St) (xs : List Val) : Prop := ΦT (!xs.isEmpty) s
theorem tr_o {ΦT : Bool → St → Prop} {i : Nat} : kTru ΦT (.own i) s = kO (EV.list (.own i) s) (kTrL ΦT s) := by
  simp only [kTru, truth, EV.seq]
  cases EV.list (.own i) s <;> rfl
theorem tr_r {ΦT : Bool → St → Prop} : kTru ΦT (.val (.ref n)) s = kO (EV.list (.val (.ref n)) s) (kTrL ΦT s) := by
  simp only [kTru, truth, EV.seq]
  cases EV.list (.val (.ref n)) s <;> rfl
def kAddN (Φ : EV → St → Prop) (ws : List Val) (s : St) (vs : List Val) : Prop := vs.length + ws.length ≤ szL ∧ Φ (.new (vs ++ ws)) s
theorem o_addON {i : Nat} : W2 .add (.own i) (.new ws) s Φ Ψ = kO (EV.list (.own i) s) (kAddN Φ ws s) := by
  show W (Res.get (EV.list (.own i) s) fun xs => .get (EV.list (.new ws) s) fun ys => .chk (xs.length + ys.length ≤ szL) (.ok (.new (xs ++ ys)) s)) Φ Ψ = _
  simp only [W_get, W_chk, li_n, kO_some]
  rfl
/-! changes in place -/
def kAtI (Θ : Val → Prop) (j : Int) (xs : List Val) : Prop := kO (atI xs j) Θ
theorem ati_e {Θ : Val → Prop} {n : Nat} (h : vs[n]? = some v) : kAtI Θ (n : Int) vs = Θ v := by
  have hn := (List.getElem?_eq_some_iff.mp h).1
  unfold kAtI atI
  rw [ix_nat hn]
  simp only [Option.bind_some, h]
  rfl
theorem as_i {ΦX : Flow → St → Prop} {o : Op2} {e : E} {j : Int} : kASi Γ Ψ ΦX o e x (.val (.int j)) s = kO (x.list s) (kAtI (kAS1 Γ Ψ ΦX o e x j s) j) := Eq.trans rfl rfl
theorem a2_add {i j : Int} : W (aug2 .add (.val (.int i)) (.val (.int j)) s) Φ Ψ = Φ (.val (.int (i + j))) s := Eq.trans rfl rfl
theorem a2_sub {i j : Int} : W (aug2 .sub (.val (.int i)) (.val (.int j)) s) Φ Ψ = Φ (.val (.int (i - j))) s := Eq.trans rfl rfl
theorem si_i {j : Int} : kO (setItem x (.int j) w s) ΦG = kO (x.list s) (kPut ΦG x j w s) := (su_i (v := w)).symm ▸ rfl
def kCellG (Θ : Val → Prop) (f : String) (cs : List String) : Option Cell → Prop
  | some (.ins C fs) => C ∈ cs ∧ kO (look f fs) Θ
  | _ => False
theorem fd_rG {Θ : Val → Prop} : kO (fldE (.val (.ref n)) f cs ⟨σ, h⟩) Θ = kCellG Θ f cs (h.c n) := by
  simp only [fldE]
  cases h.c n with
  | none => rfl
  | some c =>
    cases c with
    | ins C fs =>
      simp only [kCellG]
      split <;> simp [*, kO]
    | lst xs => rfl
    | dct fs => rfl
theorem cg_i {Θ : Val → Prop} : kCellG Θ f cs (some (.ins C fs)) = (C ∈ cs ∧ kO (look f fs) Θ) := Eq.trans rfl rfl
theorem af_r {ΦX : Flow → St → Prop} {o : Op2} {e : E} : kAF Γ Ψ ΦX o e f cs (.val (.ref n)) ⟨σ, h⟩ = kCellG (kAF1 Γ Ψ ΦX o e n f cs ⟨σ, h⟩) f cs (h.c n) := fd_rG
theorem u_kAF1 {ΦX : Flow → St → Prop} {o : Op2} {e : E} : kAF1 Γ Ψ ΦX o e n f cs s v = WE Γ e s (kAF2 Ψ ΦX o n f cs s v) Ψ := Eq.trans rfl rfl
theorem u_kAF2 {ΦX : Flow → St → Prop} {o : Op2} {s0 : St} {y : EV} : kAF2 Ψ ΦX o n f cs s0 v y s = (clsAt s.h n = clsAt s0.h n ∧ W (aug2 o (.val v) y s) (kAF3 ΦX n f cs) Ψ) := Eq.trans rfl rfl
theorem u_kAF3 {ΦX : Flow → St → Prop} {z : EV} : kAF3 ΦX n f cs z s = WK z s (kAF4 ΦX n f cs) := Eq.trans rfl rfl
theorem u_kAF4 {ΦX : Flow → St → Prop} : kAF4 ΦX n f cs w s = kO (setFld (.val (.ref n)) f cs w s) (kNx ΦX) := Eq.trans rfl rfl
theorem pk_r : EV.peek (.val (.ref n)) s = (EV.list (.val (.ref n)) s).map .lst := Eq.trans rfl rfl
theorem at_e {n : Nat} {vs : List Val} (h : vs[n]? = some v) : kAt Φ (n : Int) s vs = Φ (.val v) s := by
  have hn := (List.getElem?_eq_some_iff.mp h).1
  rw [at_n hn, (List.getElem?_eq_some_iff.mp h).2]
theorem goodL_str : ∀ l : List String, goodL (l.map .str) = true
  | [] => rfl
  | q :: l => by simp only [List.map_cons, goodL, good, goodL_str l, Bool.and_self]
theorem any_str (l : List String) (g : String) : ((l.map Val.str).any fun z => veq z (.str g)) = decide (g ∈ l) := by
  induction l with
  | nil => rfl
  | cons x l ih =>
    simp only [List.map_cons, List.any_cons, ih, veq, List.mem_cons, Bool.decide_or]
    by_cases e : x = g
    · subst e; simp
    · have e2 : ¬ g = x := fun z => e z.symm
      simp [e, e2]
theorem o_nmemL {g : String} (l : List String) : W2 .nmem (.val (.str g)) (.val (.tup (l.map .str))) s Φ Ψ = Φ (.val (.bl (!decide (g ∈ l)))) s := by
  rw [← any_str l g]
  have : W2 .nmem (.val (.str g)) (.val (.tup (l.map .str))) s Φ Ψ = ((good (.str g) = true ∧ goodL (l.map .str) = true ∧ dep (.str g) ≤ 60) ∧ Φ (.val (.bl (!(l.map Val.str).any fun z => veq z (.str g)))) s) := W2_chk rfl
  rw [this]
  exact propext ⟨fun z => z.2, fun z => ⟨⟨rfl, goodL_str l, by simp [dep]⟩, z⟩⟩
theorem o_memL {g : String} (l : List String) : W2 .mem (.val (.str g)) (.val (.tup (l.map .str))) s Φ Ψ = Φ (.val (.bl (decide (g ∈ l)))) s := by
  rw [← any_str l g]
  have : W2 .mem (.val (.str g)) (.val (.tup (l.map .str))) s Φ Ψ = ((good (.str g) = true ∧ goodL (l.map .str) = true ∧ dep (.str g) ≤ 60) ∧ Φ (.val (.bl ((l.map Val.str).any fun z => veq z (.str g)))) s) := W2_chk rfl
  rw [this]
  exact propext ⟨fun z => z.2, fun z => ⟨⟨rfl, goodL_str l, by simp [dep]⟩, z⟩⟩
theorem o_nmemG {g : String} : W2 .nmem (.val (.str g)) (.val (.tup [.str "+", .str "-", .str "*", .str "/", .str "mod", .str "<", .str "="])) s Φ Ψ = Φ (.val (.bl (!decide (g ∈ ["+", "-", "*", "/", "mod", "<", "="])))) s := o_nmemL ["+", "-", "*", "/", "mod", "<", "="]
theorem o_memW {g : String} : W2 .mem (.val (.str g)) (.val (.tup [.str "if", .str "while", .str "return"])) s Φ Ψ = Φ (.val (.bl (decide (g ∈ ["if", "while", "return"])))) s := o_memL ["if", "while", "return"]
theorem o_memS2 {a b g : String} : W2 .mem (.val (.str g)) (.val (.tup [.str a, .str b])) s Φ Ψ = Φ (.val (.bl (decide (g = a ∨ g = b)))) s := by
  have := o_memL (s := s) (Φ := Φ) (Ψ := Ψ) (g := g) [a, b]
  simp only [List.mem_cons, List.not_mem_nil, or_false] at this
  exact this
theorem o_memS4 {a b c e g : String} : W2 .mem (.val (.str g)) (.val (.tup [.str a, .str b, .str c, .str e])) s Φ Ψ = Φ (.val (.bl (decide (g = a ∨ g = b ∨ g = c ∨ g = e)))) s := by
  have := o_memL (s := s) (Φ := Φ) (Ψ := Ψ) (g := g) [a, b, c, e]
  simp only [List.mem_cons, List.not_mem_nil, or_false] at this
  exact this
theorem em_app {ws : List Val} : (ws ++ [v]).isEmpty = false := by cases ws <;> rfl
theorem em_cons {ws : List Val} : (v :: ws).isEmpty = false := Eq.trans rfl rfl
theorem em_nil : ([] : List Val).isEmpty = true := Eq.trans rfl rfl
/-- a comprehension without a condition, over one name -/
theorem WC_map {α : Type} {e : E} {Φ : EV → St → Prop} {Γ : Env} {h : AHeap} {σ : List (Option SV)} (as : List α) (g f : α → Val) {j : Nat} (hl : as.length ≤ 16777216) (hv : ∀ a, a ∈ as → WE Γ e ⟨(wipe σ [j]).set j (some (.v (g a))), h⟩ (fun y s => WK y s fun v s => v = f a ∧ s.h = h ∧ wipe s.σ [j] = wipe σ [j]) (fun _ _ _ => False))
    (hΦ : Φ (.new (as.map f)) ⟨wipe σ [j], h⟩) : WC Γ Φ (.name j) (.c (.bl true)) e [j] (as.map g) [] ⟨σ, h⟩ := by
  obtain ⟨J, hJ⟩ : ∃ J : Nat → List Val → St → Prop, ∀ i acc st, J i acc st ↔ acc = (as.take i).map f ∧ st.h = h ∧ wipe st.σ [j] = wipe σ [j] := ⟨_, fun _ _ _ => Iff.rfl⟩
  refine WC_inv J ((hJ _ _ _).mpr ⟨by simp, rfl, rfl⟩) ?_ ?_
  · intro i x acc st hx hs
    obtain ⟨rfl, e1, e2⟩ := (hJ _ _ _).mp hs
    rw [List.getElem?_map] at hx
    cases ea : as[i]? with
    | none => rw [ea] at hx; cases hx
    | some a =>
      rw [ea] at hx
      simp only [Option.map_some, Option.some.injEq] at hx
      subst hx
      have hi := (List.getElem?_eq_some_iff.mp ea).1
      rw [g_name]
      unfold kJ0
      rw [t_c, r_c, tr_b, kj_t, e1, e2]
      unfold WE
      refine W.mono (hv a (List.mem_of_getElem? ea)) (fun y s hy => ?_) fun _ _ _ z => z.elim
      unfold kJ2 WK
      refine W.mono hy (fun v s hv => ?_) fun _ _ _ z => z.elim
      refine ⟨?_, (hJ _ _ _).mpr ⟨?_, hv.2⟩⟩
      · rw [List.length_map, List.length_take]
        have : szL = 16777216 := rfl
        omega
      · rw [hv.1, List.take_succ, ea, List.map_append]
        rfl
  · intro acc st hs
    obtain ⟨rfl, e1, e2⟩ := (hJ _ _ _).mp hs
    rw [List.length_map, List.take_length, e1, e2]
    exact hΦ
end
theorem cs2 : (((2 : Nat) : Int) - 1) = 1 := rfl
theorem cs3 : (((3 : Nat) : Int) - 1) = 2 := rfl
theorem cs4 : (((4 : Nat) : Int) - 1) = 3 := rfl
theorem enumL_get : ∀ (vs : List Val) (a i : Nat), (enumL a vs)[i]? = (vs[i]?).map fun v => .tup [.int ((a + i : Nat) : Int), v]
  | [], a, i => by simp [enumL]
  | v :: vs, a, 0 => by simp [enumL]
  | v :: vs, a, i + 1 => by
    simp only [enumL, List.getElem?_cons_succ, enumL_get vs (a + 1) i]
    rw [show a + 1 + i = a + (i + 1) from by omega]
theorem enumL_len : ∀ (vs : List Val) (a : Nat), (enumL a vs).length = vs.length
  | [], _ => rfl
  | v :: vs, a => by simp [enumL, enumL_len vs]
theorem enumL_some {vs : List Val} {a i : Nat} {x : Val} (h : (enumL a vs)[i]? = some x) : ∃ v, vs[i]? = some v ∧ x = .tup [.int ((a + i : Nat) : Int), v] := by
  rw [enumL_get] at h
  cases e : vs[i]? with
  | none => rw [e] at h; cases h
  | some v => rw [e] at h; cases h; exact ⟨v, rfl, rfl⟩
theorem cut_take {α : Type} (xs : List α) (j : Nat) : cut xs none (some (j : Int)) = xs.take j := by
  unfold cut
  simp only [sIx]
  rw [if_neg (by omega)]
  simp only [Nat.sub_zero, List.drop_zero, Int.toNat_natCast]
  by_cases h : j ≤ xs.length
  · rw [Nat.min_eq_left h]
  · rw [Nat.min_eq_right (by omega), List.take_length, List.take_of_length_le (by omega)]
theorem cut_map {α : Type} (xs : List α) (f : α → Val) (j : Nat) : cut (xs.map f) none (some (j : Int)) = (xs.take j).map f := by
  rw [cut_take, List.map_take]
theorem nodup_take {α : Type} {l : List α} (h : l.Nodup) {j : Nat} {x : α} (e : l[j]? = some x) : x ∉ l.take j := by
  intro hm
  obtain ⟨i, hi, hx⟩ := List.getElem_of_mem hm
  have hi2 : i < j := by rw [List.length_take] at hi; omega
  have hj := (List.getElem?_eq_some_iff.mp e).1
  have he := (List.getElem?_eq_some_iff.mp e).2
  rw [List.getElem_take] at hx
  have := (List.pairwise_iff_getElem.mp h) i j (by omega) hj hi2
  exact this (hx.trans he.symm)
theorem veq_pair {a b : Int × Int} : veq (pairV a) (pairV b) = decide (a = b) := by
  obtain ⟨a1, a2⟩ := a
  obtain ⟨b1, b2⟩ := b
  simp only [pairV, veq, veqL, Bool.and_true, Prod.mk.injEq, Bool.decide_and]
theorem any_pair (l : List (Int × Int)) (q : Int × Int) : ((l.map pairV).any fun z => veq z (pairV q)) = decide (q ∈ l) := by
  rw [List.any_map]
  induction l with
  | nil => simp
  | cons x l ih =>
    simp only [List.any_cons, Function.comp, veq_pair] at ih ⊢
    rw [ih]
    by_cases e : x = q
    · subst e; simp
    · have e2 : ¬ q = x := fun z => e z.symm
      simp [e, e2]
theorem any_pair2 (l : List (Int × Int)) (b p : Int) : ((l.map pairV).any fun z => veq z (.tup [.int b, .int p])) = decide ((b, p) ∈ l) := any_pair l (b, p)
theorem good2 {b p : Int} : good (.tup [.int b, .int p]) = true := Eq.trans rfl rfl
theorem dep2 {b p : Int} : (dep (.tup [.int b, .int p]) ≤ 60) = True := by simp [dep, depL]
theorem good_pair {q : Int × Int} : good (pairV q) = true := Eq.trans rfl rfl
theorem goodL_pair : ∀ l : List (Int × Int), goodL (l.map pairV) = true
  | [] => rfl
  | q :: l => by simp only [List.map_cons, goodL, good_pair, goodL_pair l, Bool.and_self]
end IA

set_option Elab.async false
set_option linter.all false
set_option maxRecDepth 100000
set_option maxHeartbeats 4000000
/-! ## The object Interface (own text) -/
namespace IA
set_option hygiene false in
local macro_rules | `(tactic| fail "st") => `(tactic| first | simp only [hp, r_c, r_var, r_op, r_ch, r_ix, r_sl, r_fld, r_bi, r_meth, t_op, t_ch, t_meth, t_or, t_not, b_nil, b_cons, v_nil, v_cons, i_seq, i_enum, i_rng, g_name, g_tup, g_fld, gs_nil, gs_cons, s_nil, s_cons, x_asg, x_ret, x_ifs, x_raise, x_for, r_comp, o_lt, o_le, o_gt, o_eqI, if_t, if_f, ot_t, nt, tr_b, va_v, kp_v, se_l, se_n, bi_lenT, bi_tuple, bi_min2, ix_t, at_0, at_1, st_set, sq_l, sq_et, fl_n, fl_r, ou_n, ou_r, re_t, fo_x, co_x, ki_n, ki_r, u_kOp1, u_kOp2, u_kCh1, u_kCh2, u_kIx1, u_kSl1, kSl2, kSl3, oi_n, oi_s, sl_t, u_kFld, u_kBi, u_kVl, u_kB1, u_kB2, u_kV1, u_kV2, u_kV3, kRng, u_kFst1, u_kFst2, u_kGs, u_kNx, u_kAsg, u_kRt, u_kRetS, u_kRs, u_kRs1, u_kI1, u_kTp, kMeth1, u_kExc, u_kOutX, wipe, kO_some, true_and, and_true, List.length_cons, List.length_nil, List.getElem?_cons_zero, List.getElem?_cons_succ, List.set_cons_zero, List.set_cons_succ, Nat.reduceAdd, Nat.reduceLeDiff, List.nil_append, List.cons_append, decide_true, Bool.not_true, Bool.not_false, Int.reduceToNat, List.length_map] | simp only [r_c, r_var, r_op, r_ch, r_ix, r_sl, r_fld, r_bi, r_meth, t_op, t_ch, t_meth, t_or, t_not, b_nil, b_cons, v_nil, v_cons, i_seq, i_enum, i_rng, g_name, g_tup, g_fld, gs_nil, gs_cons, s_nil, s_cons, x_asg, x_ret, x_ifs, x_raise, x_for, r_comp, o_lt, o_le, o_gt, o_eqI, if_t, if_f, ot_t, nt, tr_b, va_v, kp_v, se_l, se_n, bi_lenT, bi_tuple, bi_min2, ix_t, at_0, at_1, st_set, sq_l, sq_et, fl_n, fl_r, ou_n, ou_r, re_t, fo_x, co_x, ki_n, ki_r, u_kOp1, u_kOp2, u_kCh1, u_kCh2, u_kIx1, u_kSl1, kSl2, kSl3, oi_n, oi_s, sl_t, u_kFld, u_kBi, u_kVl, u_kB1, u_kB2, u_kV1, u_kV2, u_kV3, kRng, u_kFst1, u_kFst2, u_kGs, u_kNx, u_kAsg, u_kRt, u_kRetS, u_kRs, u_kRs1, u_kI1, u_kTp, kMeth1, u_kExc, u_kOutX, wipe, kO_some, true_and, and_true, List.length_cons, List.length_nil, List.getElem?_cons_zero, List.getElem?_cons_succ, List.set_cons_zero, List.set_cons_succ, Nat.reduceAdd, Nat.reduceLeDiff, List.nil_append, List.cons_append, decide_true, Bool.not_true, Bool.not_false, Int.reduceToNat, List.length_map])
set_option hygiene false in
local macro_rules | `(tactic| fail "qs") => `(tactic| first
  | with_reducible refine if_s (fun hq => ?_) (fun hq => ?_)
  | with_reducible refine at_s (fun hq => ?_) (fun hq => ?_)
  | with_reducible refine ot_s (fun hq => ?_) (fun hq => ?_)
  | with_reducible refine it_s (fun hq => ?_) (fun hq => ?_)
  | with_reducible refine ad_s (fun hq => ?_) (fun hq => ?_)
  | with_reducible refine or_s (fun hq => ?_) (fun hq => ?_)
  | with_reducible refine ch_s (fun hq => ?_) (fun hq => ?_)
  | with_reducible refine c1_s (fun hq => ?_) (fun hq => ?_))
local macro_rules | `(tactic| fail "sd") => `(tactic| first
  | assumption
  | omega
  | exact smR (by omega) (by omega)
  | exact bdI (by omega) (by omega)
  | exact And.intro (bdI (by omega) (by omega)) (bdI (by omega) (by omega))
  | exact smL (by omega) (by omega)
  | decide)
set_option hygiene false in
local macro_rules | `(tactic| fail "g1") => `(tactic| first
  | fail "st"
  | (fail "qs" <;> (try simp only [decide_eq_true_eq, decide_eq_false_iff_not, Bool.not_eq_true', Bool.not_eq_false', beq_iff_eq, bne_iff_ne, ne_eq, Int.not_le, Int.not_lt] at hq))
  | ((with_reducible apply And.intro); (case left => fail "sd"))
  | fail "none")
set_option hygiene false in
local macro_rules | `(tactic| fail "go") => `(tactic| repeat' fail "g1")
set_option hygiene false in
local macro_rules | `(tactic| fail "ha") => `(tactic| first
  | assumption
  | exact HasA.set (by assumption)
  | fail "none")
set_option hygiene false in
local macro_rules | `(tactic| fail "dr") => `(tactic| first
  | (with_reducible refine draw_A hD (by fail "ha") (by omega) (by omega) ?_; intro v c hc hv0 hv1)
  | (with_reducible refine spend_A hS (by fail "ha") ?_; intro b c hc)
  | (with_reducible refine number_A hD hN (by fail "ha") ?_; intro v c hc hv0 hv1)
  | (with_reducible refine few_A hD hF (by fail "ha") (by omega) (by omega) ?_; intro v c hc hv0 hv1)
  | fail "none")
set_option hygiene false in
local macro_rules | `(tactic| fail "gd") => `(tactic| repeat' (first | fail "g1" | fail "dr" | fail "none"))

set_option hygiene false in
local macro_rules | `(tactic| fail "ob") => `(tactic| simp only [fd_r, cf_i, fs_r, cs_i, pf_n, pf_c, hn_get, hn_set, G_call, Option.map_some, List.map_cons, List.map_nil, ic_c, ic_i, o_memT, u_kMeth, String.reduceEq, reduceIte, List.mem_cons, List.not_mem_nil, or_false, true_and, and_true, kO_some, u_kVl, List.length_cons, List.length_nil, Nat.reduceAdd, Nat.reduceLT, eq_self, decide_true, Bool.true_and, look, Option.isNone_none, goodL_pair, any_pair2, cut_map, good2, dep2])
set_option hygiene false in
local macro_rules | `(tactic| fail "ma") => `(tactic| first | (rw [at_e ha1]) | (rw [at_e ha2]) | (rw [at_e ha3]) | (rw [at_e ha4]) | (rw [ati_e ha1]) | (rw [ati_e ha2]) | (rw [ati_e ha3]) | (rw [ati_e ha4]) | (rw [at_n (by (first | omega | (rw [List.length_map]; omega)))]; try rw [List.getElem_map]) | (rw [ix_nat (by (first | omega | (simp only [List.length_map]; omega)))]))
local macro_rules | `(tactic| fail "sx") => `(tactic| first | omega | (simp only []; omega))
local macro_rules | `(tactic| fail "rd") => `(tactic| repeat' (first | rw [hp_get] | (rw [hs_ne (by fail "sx")]) | (rw [hn_get2 (by first | rfl | fail "sx")]) | (rw [hn_ne (by fail "sx")]) | rw [hb_c]))
set_option hygiene false in
local macro_rules | `(tactic| fail "oo") => `(tactic| repeat' (first | fail "st" | simp only [hx] | simp only [hy] | simp only [hz] | simp only [hu] | simp only [hv] | simp only [hw] | fail "ob" | (with_reducible refine hw1 _ _ _ ?_) | (with_reducible refine hw2 _ _ _ ?_) | (with_reducible refine hw3 _ _ _ ?_)  | (rw [hs_ne (by omega)]) | (rw [hn_ne (by (first | omega | (simp only []; omega)))]) | fail "ma" | fail "dr" | fail "g1" | fail "none"))
set_option hygiene false in
local macro_rules | `(tactic| fail "on") => `(tactic| repeat' (first | fail "st" | simp only [hx] | simp only [hy] | simp only [hz] | simp only [hu] | simp only [hv] | simp only [hw] | fail "ob" | (with_reducible refine hw1 _ _ _ ?_) | (with_reducible refine hw2 _ _ _ ?_) | (with_reducible refine hw3 _ _ _ ?_)  | (rw [hs_ne (by omega)]) | (rw [hn_ne (by (first | omega | (simp only []; omega)))]) | fail "ma" | fail "dr" | ((with_reducible apply And.intro); (case left => fail "sd")) | fail "none"))

def expV (rs : List Row) : Val := .tup (rs.map fun r => .int r.1)
def impV (rs : List Row) : Val := .tup (rs.map fun r => .tup (r.2.map pairV))
def ifcF (rs : List Row) : List (String × Val) := [("exports", expV rs), ("imports", impV rs)]
def ifcV (rs : List Row) : Val := .obj "Interface" (ifcF rs)
section
variable {P : Prog} {lim k : Nat} {h : AHeap} {p : Nat} {ns : List Int} {n : Int} {Φ : Val → AHeap → Prop} {Ψ : String → Val → AHeap → Prop}
end
end IA

set_option Elab.async false
set_option linter.all false
set_option maxRecDepth 100000
set_option maxHeartbeats 4000000
/-! ## Rows of interfaces in the heap (law k02; own text) -/
namespace IA
set_option hygiene false in
local macro_rules | `(tactic| fail "st") => `(tactic| first | simp only [hp, r_c, r_var, r_op, r_tup, r_lst, r_ix, r_rev, r_bi, r_bm, r_call, r_heap, t_c, t_op, t_and, b_nil, b_cons, v_nil, v_cons, i_rng, g_name, g_nameN, s_nil, s_cons, x_asg, x_ret, x_ex, x_ifs, x_for, r_comp, o_addI, o_lt, o_gt, o_eqI, o_neI, if_f, tr_b, va_v, va_o, kp_v, kp_o, ko_o, li_o, so_o, li_r, sc_l, bi_lenO, bi_append, ix_o, st_set, put_r, put_o, hp_set, fl_n, fl_r, ou_r, ca_G, re_t, fo_x, co_x, ki_n, kj_t, u_kOp1, u_kOp2, u_kTup, u_kLst, u_kIx1, u_kRevL, u_kRev, u_kBi, u_kBm, u_kBm1, u_kB1, u_kB2, u_kV1, u_kV2, u_kV3, kRng, u_kNx, u_kAsg, u_kRt, u_kRetS, u_kEx, u_kI1, u_kJ0, u_kJ2, u_kJ3, u_kLen, u_kAp, kHeap, wipe, kO_some, true_and, and_true, List.length_cons, List.length_nil, List.getElem?_cons_zero, List.getElem?_cons_succ, List.set_cons_zero, List.set_cons_succ, Nat.reduceAdd, szL, Nat.reduceLeDiff, List.nil_append, List.cons_append, recvOk, Option.isSome_some, Int.reduceToNat, List.length_map] | simp only [r_c, r_var, r_op, r_tup, r_lst, r_ix, r_rev, r_bi, r_bm, r_call, r_heap, t_c, t_op, t_and, b_nil, b_cons, v_nil, v_cons, i_rng, g_name, g_nameN, s_nil, s_cons, x_asg, x_ret, x_ex, x_ifs, x_for, r_comp, o_addI, o_lt, o_gt, o_eqI, o_neI, if_f, tr_b, va_v, va_o, kp_v, kp_o, ko_o, li_o, so_o, li_r, sc_l, bi_lenO, bi_append, ix_o, st_set, put_r, put_o, hp_set, fl_n, fl_r, ou_r, ca_G, re_t, fo_x, co_x, ki_n, kj_t, u_kOp1, u_kOp2, u_kTup, u_kLst, u_kIx1, u_kRevL, u_kRev, u_kBi, u_kBm, u_kBm1, u_kB1, u_kB2, u_kV1, u_kV2, u_kV3, kRng, u_kNx, u_kAsg, u_kRt, u_kRetS, u_kEx, u_kI1, u_kJ0, u_kJ2, u_kJ3, u_kLen, u_kAp, kHeap, wipe, kO_some, true_and, and_true, List.length_cons, List.length_nil, List.getElem?_cons_zero, List.getElem?_cons_succ, List.set_cons_zero, List.set_cons_succ, Nat.reduceAdd, szL, Nat.reduceLeDiff, List.nil_append, List.cons_append, recvOk, Option.isSome_some, Int.reduceToNat, List.length_map])
set_option hygiene false in
local macro_rules | `(tactic| fail "qs") => `(tactic| first
  | with_reducible refine if_s (fun hq => ?_) (fun hq => ?_)
  | with_reducible refine at_s (fun hq => ?_) (fun hq => ?_)
  | with_reducible refine ot_s (fun hq => ?_) (fun hq => ?_)
  | with_reducible refine it_s (fun hq => ?_) (fun hq => ?_)
  | with_reducible refine ad_s (fun hq => ?_) (fun hq => ?_)
  | with_reducible refine or_s (fun hq => ?_) (fun hq => ?_)
  | with_reducible refine ch_s (fun hq => ?_) (fun hq => ?_)
  | with_reducible refine c1_s (fun hq => ?_) (fun hq => ?_))
local macro_rules | `(tactic| fail "sd") => `(tactic| first
  | assumption
  | omega
  | exact smR (by omega) (by omega)
  | exact bdI (by omega) (by omega)
  | exact And.intro (bdI (by omega) (by omega)) (bdI (by omega) (by omega))
  | exact smL (by omega) (by omega)
  | decide)
set_option hygiene false in
local macro_rules | `(tactic| fail "g1") => `(tactic| first
  | fail "st"
  | (fail "qs" <;> (try simp only [decide_eq_true_eq, decide_eq_false_iff_not, Bool.not_eq_true', Bool.not_eq_false', beq_iff_eq, bne_iff_ne, ne_eq, Int.not_le, Int.not_lt] at hq))
  | ((with_reducible apply And.intro); (case left => fail "sd"))
  | fail "none")
set_option hygiene false in
local macro_rules | `(tactic| fail "go") => `(tactic| repeat' fail "g1")
set_option hygiene false in
local macro_rules | `(tactic| fail "ha") => `(tactic| first
  | assumption
  | exact HasA.set (by assumption)
  | fail "none")
set_option hygiene false in
local macro_rules | `(tactic| fail "dr") => `(tactic| first
  | (with_reducible refine draw_A hD (by fail "ha") (by omega) (by omega) ?_; intro v c hc hv0 hv1)
  | (with_reducible refine spend_A hS (by fail "ha") ?_; intro b c hc)
  | (with_reducible refine number_A hD hN (by fail "ha") ?_; intro v c hc hv0 hv1)
  | (with_reducible refine few_A hD hF (by fail "ha") (by omega) (by omega) ?_; intro v c hc hv0 hv1)
  | fail "none")
set_option hygiene false in
local macro_rules | `(tactic| fail "gd") => `(tactic| repeat' (first | fail "g1" | fail "dr" | fail "none"))

set_option hygiene false in
local macro_rules | `(tactic| fail "ob") => `(tactic| simp only [hn_get, hs_next, Option.map_some, List.map_append, List.map_cons, List.map_nil, Row.v, String.reduceEq, reduceIte, List.mem_cons, List.not_mem_nil, or_false, true_and, and_true, kO_some, List.length_cons, List.length_nil, Nat.reduceAdd, Nat.reduceLT, eq_self, Bool.true_and])
set_option hygiene false in
local macro_rules | `(tactic| fail "ma") => `(tactic| first | (rw [at_e ha1]) | (rw [at_e ha2]) | (rw [at_e ha3]) | (rw [at_e ha4]) | (rw [ati_e ha1]) | (rw [ati_e ha2]) | (rw [ati_e ha3]) | (rw [ati_e ha4]) | (rw [at_n (by (first | omega | (rw [List.length_map]; omega)))]; try rw [List.getElem_map]) | (rw [ix_nat (by (first | omega | (simp only [List.length_map]; omega)))]))
local macro_rules | `(tactic| fail "sx") => `(tactic| first | omega | (simp only [hs_next]; omega))
local macro_rules | `(tactic| fail "rd") => `(tactic| repeat' (first | rw [hp_get] | (rw [hs_ne (by fail "sx")]) | (rw [hn_get2 (by first | rfl | fail "sx")]) | (rw [hn_ne (by fail "sx")]) | rw [hb_c]))
set_option hygiene false in
local macro_rules | `(tactic| fail "oo") => `(tactic| repeat' (first | fail "st" | simp only [hx] | simp only [hy] | simp only [hz] | simp only [hu] | simp only [hv] | simp only [hw] | fail "ob" | (with_reducible refine hw1 _ _ _ ?_) | (with_reducible refine hw2 _ _ _ ?_) | (with_reducible refine hw3 _ _ _ ?_)  | (rw [hs_ne (by omega)]) | (rw [hn_ne (by (first | omega | (simp only [hs_next]; omega)))]) | fail "ma" | fail "dr" | fail "g1" | fail "none"))
set_option hygiene false in
local macro_rules | `(tactic| fail "on") => `(tactic| repeat' (first | fail "st" | simp only [hx] | simp only [hy] | simp only [hz] | simp only [hu] | simp only [hv] | simp only [hw] | fail "ob" | (with_reducible refine hw1 _ _ _ ?_) | (with_reducible refine hw2 _ _ _ ?_) | (with_reducible refine hw3 _ _ _ ?_)  | (rw [hs_ne (by omega)]) | (rw [hn_ne (by (first | omega | (simp only [hs_next]; omega)))]) | fail "ma" | fail "dr" | ((with_reducible apply And.intro); (case left => fail "sd")) | fail "none"))

section
variable {P : Prog} {lim k : Nat} {h : AHeap} {p : Nat} {ns : List Int} {n : Int} {Φ : Val → AHeap → Prop} {Ψ : String → Val → AHeap → Prop}
theorem new_set {c X : Cell} (hp : p < h.next) : (h.set p c).new X = (h.new X).set p c := by
  unfold AHeap.new AHeap.set
  simp only [AHeap.mk.injEq, and_true]
  funext n
  by_cases h1 : n = h.next
  · subst h1
    simp [Nat.ne_of_gt hp]
  · simp [h1]
theorem set_new {c X Y : Cell} (hp : p < h.next) : ((h.new X).set p c).set h.next Y = (h.new Y).set p c := by
  unfold AHeap.new AHeap.set
  simp only [AHeap.mk.injEq, and_true]
  funext n
  by_cases h1 : n = h.next
  · subst h1
    simp [Nat.ne_of_gt hp]
  · simp [h1]
theorem rows_specH (hD : P "_law_draw" = some IX.b_law_draw) (hP : P "_law_rows" = some IX.b_law_rows_k02h) (hp : HasA h p ns) {m : Int} (h0 : 0 < m) (h1 : m ≤ 8)
    (hf : h.Fresh)
    (hΦ : ∀ rs c, RowsOk m rs → PoolA ns c → Φ (.ref h.next) ((h.new (.lst (rs.map Row.v))).set p c)) : WR P lim (k + 2) "_law_rows" [.ref p, .int m] h Φ Ψ := by
  rw [r_enter hP rfl]
  unfold IX.b_law_rows_k02h start
  simp only [List.map_cons, List.map_nil, List.cons_append, List.nil_append, Nat.reduceSub, List.replicate]
  fail "oo"
  obtain ⟨n, rfl⟩ : ∃ n : Nat, v = (n : Int) := ⟨v.toNat, by omega⟩
  obtain ⟨J, hJ⟩ : ∃ J : Nat → List Val → St → Prop, ∀ i acc st, J i acc st ↔ ∃ x, ∃ c, ∃ es : List Int, acc = es.map .int ∧ es.length = i ∧ (∀ y, y ∈ es → 1 ≤ y ∧ y ≤ 3) ∧ PoolA ns c ∧
    st = ⟨[some (.v (.ref p)), some (.v (.int m)), some (.v (.int (1 + (n : Int)))), none, x, none, none, none, none], h.set p c⟩ := ⟨_, fun _ _ _ => Iff.rfl⟩
  refine WC_inv J ((hJ _ _ _).mpr ⟨none, c, [], rfl, rfl, by simp, hc, rfl⟩) ?_ ?_
  · intro i x acc st hx hs
    obtain ⟨y, c2, es, rfl, hl, he, hc2, rfl⟩ := (hJ _ _ _).mp hs
    obtain ⟨hi, _⟩ := rngL_some hx
    fail "oo"
    refine (hJ _ _ _).mpr ⟨_, c, es ++ [1 + v], by simp, by simp [hl], ?_, hc, rfl⟩
    intro y hy
    rcases List.mem_append.mp hy with hy | hy
    · exact he y hy
    · simp only [List.mem_cons, List.not_mem_nil, or_false] at hy
      omega
  intro acc st hs
  obtain ⟨y, c2, es, rfl, hl, he, hc2, rfl⟩ := (hJ _ _ _).mp hs
  rw [rngL_len] at hl
  have hl2 : es.length = n + 1 := by omega
  have hget : ∀ i : Nat, i < n + 1 → ∃ x, es[i]? = some x ∧ 1 ≤ x ∧ x ≤ 3 := fun i hi => ⟨es[i], List.getElem?_eq_getElem (by omega), he _ (List.getElem_mem (by omega))⟩
  clear hJ hs
  fail "oo"
  have hpn : p < h.next := Exists.elim hp fun c00 hc00 => Fresh.lt hf hc00.1
  rw [new_set hpn]
  obtain ⟨I, hI⟩ : ∃ I : Nat → St → Prop, ∀ i st, I i st ↔ ∃ x4 x6 x7 x8, ∃ c, ∃ rs : List Row, PoolA ns c ∧ rs.length = i ∧ (∀ (j : Nat) r, rs[j]? = some r → es[j]? = some r.1 ∧ ImpOk es j r.2) ∧
    st = ⟨[some (.v (.ref p)), some (.v (.int m)), some (.v (.int (1 + (n : Int)))), some (.own (es.map .int)), x4, some (.v (.ref h.next)), x6, x7, x8], (h.new (.lst (rs.map Row.v))).set p c⟩ := ⟨_, fun _ _ => Iff.rfl⟩
  refine WF_inv I ((hI _ _).mpr ⟨_, _, _, _, c2, [], hc2, rfl, by simp, rfl⟩) ?_ ?_
  · intro i x st hx hs
    obtain ⟨x4, x6, x7, x8, c3, rs, hc3, hr, hrs, rfl⟩ := (hI _ _).mp hs
    obtain ⟨hi, rfl⟩ := rngL_some hx
    rw [Int.zero_add]
    fail "oo"
    obtain ⟨I2, hI2⟩ : ∃ I2 : Nat → St → Prop, ∀ o st, I2 o st ↔ ∃ x7 x8, ∃ c, ∃ l : List (Int × Int), PoolA ns c ∧ Below es i o 0 l ∧
      st = ⟨[some (.v (.ref p)), some (.v (.int m)), some (.v (.int (1 + (n : Int)))), some (.own (es.map .int)), some (.v (.int (i : Int))), some (.v (.ref h.next)), some (.own (l.map pairV)), x7, x8], (h.new (.lst (rs.map Row.v))).set p c⟩ := ⟨_, fun _ _ => Iff.rfl⟩
    refine WF_inv I2 ((hI2 _ _).mpr ⟨_, _, c3, [], hc3, ⟨by simp, List.nodup_nil, by simp⟩, rfl⟩) ?_ ?_
    · intro o x st hx hs
      obtain ⟨x7, x8, c4, l, hc4, hb, rfl⟩ := (hI2 _ _).mp hs
      obtain ⟨ho, rfl⟩ := rngL_some hx
      rw [Int.zero_add]
      obtain ⟨ex, hex, ex0, ex1⟩ := hget o (by omega)
      have hex2 := (List.getElem?_eq_some_iff.mp hex).2
      fail "oo"
      rw [hex2]
      obtain ⟨I3, hI3⟩ : ∃ I3 : Nat → St → Prop, ∀ w st, I3 w st ↔ ∃ x8, ∃ c, ∃ l : List (Int × Int), PoolA ns c ∧ Below es i o w l ∧
        st = ⟨[some (.v (.ref p)), some (.v (.int m)), some (.v (.int (1 + (n : Int)))), some (.own (es.map .int)), some (.v (.int (i : Int))), some (.v (.ref h.next)), some (.own (l.map pairV)), some (.v (.int (o : Int))), x8], (h.new (.lst (rs.map Row.v))).set p c⟩ := ⟨_, fun _ _ => Iff.rfl⟩
      refine WF_inv I3 ((hI3 _ _).mpr ⟨_, c4, l, hc4, hb, rfl⟩) ?_ ?_
      · intro w x st hx hs
        obtain ⟨x8, c5, l, hc5, hb, rfl⟩ := (hI3 _ _).mp hs
        obtain ⟨hw, rfl⟩ := rngL_some hx
        rw [Int.zero_add]
        have e1 := hb.2.2
        fail "oo"
        all_goals try simp only [List.length_map] at *
        · refine (hI3 _ _).mpr ⟨some (.v (.int (w : Int))), c, l ++ [((o : Int), (w : Int))], by assumption, ?_, ?_⟩
          · exact hb.add (by omega) (by omega) hex (by omega) (by omega)
          · simp only [List.map_append, List.map_cons, List.map_nil, pairV]
        · exact (hI3 _ _).mpr ⟨_, _, l, by assumption, hb.up (by omega), rfl⟩
        · exact (hI3 _ _).mpr ⟨_, _, l, by assumption, hb.up (by omega), rfl⟩
        · exact (hI3 _ _).mpr ⟨_, _, l, by assumption, hb.up (by omega), rfl⟩
      · intro st hs
        obtain ⟨x8, c5, l, hc5, hb, rfl⟩ := (hI3 _ _).mp hs
        fail "oo"
        exact (hI2 _ _).mpr ⟨_, _, _, l, by assumption, hb.up (by omega), rfl⟩
    · intro st hs
      obtain ⟨x7, x8, c4, l, hc4, hb, rfl⟩ := (hI2 _ _).mp hs
      obtain ⟨ex, hex, ex0, ex1⟩ := hget i (by omega)
      have hex2 := (List.getElem?_eq_some_iff.mp hex).2
      have key : ∀ l2 : List (Int × Int), ImpOk es i l2 → ∀ (j : Nat) r, (rs ++ [(ex, l2)])[j]? = some r → es[j]? = some r.1 ∧ ImpOk es j r.2 := fun l2 h2 j r hj => by
        by_cases hlt : j < rs.length
        · rw [List.getElem?_append_left hlt] at hj
          exact hrs j r hj
        · rw [List.getElem?_append_right (by omega)] at hj
          have : j - rs.length = 0 := by
            have := (List.getElem?_eq_some_iff.mp hj).1
            simp only [List.length_cons, List.length_nil] at this
            omega
          rw [this] at hj
          simp only [List.getElem?_cons_zero, Option.some.injEq] at hj
          subst hj
          have e : j = i := by omega
          subst e
          exact ⟨hex, h2⟩
      fail "oo"
      all_goals rw [hex2, set_new hpn]
      · refine (hI _ _).mpr ⟨some (.v (.int (i : Int))), some (.v (.lst (l.map pairV).reverse)), x7, x8, _, rs ++ [(ex, l.reverse)], by assumption, by simp [hr], key _ hb.imp.rev, ?_⟩
        simp only [List.map_append, List.map_cons, List.map_nil, Row.v, List.map_reverse]
      · refine (hI _ _).mpr ⟨some (.v (.int (i : Int))), some (.v (.lst (l.map pairV))), x7, x8, _, rs ++ [(ex, l)], by assumption, by simp [hr], key _ hb.imp, ?_⟩
        simp only [List.map_append, List.map_cons, List.map_nil, Row.v]
  · intro st hs
    obtain ⟨x4, x6, x7, x8, c3, rs, hc3, hr, hrs, rfl⟩ := (hI _ _).mp hs
    rw [rngL_len] at hr
    fail "oo"
    refine hΦ rs c3 ⟨by omega, by omega, fun i r hi => ?_⟩ hc3
    obtain ⟨h2, h3⟩ := hrs i r hi
    obtain ⟨x, hx, hx0, hx1⟩ := hget i (by have := (List.getElem?_eq_some_iff.mp h2).1; omega)
    rw [h2] at hx
    cases hx
    refine ⟨hx0, hx1, ?_⟩
    have : rs.map Prod.fst = es := by
      refine List.ext_getElem? fun j => ?_
      rw [List.getElem?_map]
      by_cases hj : j < rs.length
      · rw [List.getElem?_eq_getElem hj]
        simp only [Option.map_some]
        exact (hrs j _ (List.getElem?_eq_getElem hj)).1.symm
      · rw [List.getElem?_eq_none (by omega), List.getElem?_eq_none (by omega)]
        rfl
    rw [this]
    exact h3
end
end IA

set_option Elab.async false
set_option linter.all false
set_option maxRecDepth 100000
set_option maxHeartbeats 4000000
/-! ## Rows of interfaces, valid or not (law k02; own text) -/
namespace IA
set_option hygiene false in
local macro_rules | `(tactic| fail "st") => `(tactic| first | simp only [hp, r_c, r_var, r_op, r_tup, r_lst, r_ix, r_sl, r_bi, r_call, r_heap, t_var, t_op, t_and, b_nil, b_cons, v_nil, v_cons, i_rng, g_name, g_tup, g_sub, gs_nil, gs_cons, s_nil, s_cons, x_asg, x_ret, x_ifs, r_comp, o_addLN, o_sub, o_eqI, if_t, if_f, at_t, at_f, tr_b, tr_l, va_v, kp_v, kp_n, li_r, sc_l, bi_lenL, bi_lenR, ix_l, ix_r, st_set, su_i, put_r, hp_set, fl_n, fl_r, ou_r, ca_G, re_t, co_x, u_kOp1, u_kOp2, u_kTup, u_kLst, u_kIx1, u_kSl1, kSl2, kSl3, oi_n, oi_s, sl_r, u_kSlL, u_kBi, u_kB1, u_kB2, u_kV1, u_kV2, u_kV3, kRng, u_kSub1, u_kSub2, u_kGs, u_kNx, u_kAsg, u_kRt, u_kRetS, u_kLen, kHeap, u_kPut, u_kPut1, wipe, kO_some, true_and, and_true, List.length_cons, List.length_nil, List.getElem?_cons_zero, List.getElem?_cons_succ, List.set_cons_zero, List.set_cons_succ, Nat.reduceAdd, szL, Nat.reduceLeDiff, List.nil_append, List.cons_append, Int.reduceToNat, List.length_map] | simp only [r_c, r_var, r_op, r_tup, r_lst, r_ix, r_sl, r_bi, r_call, r_heap, t_var, t_op, t_and, b_nil, b_cons, v_nil, v_cons, i_rng, g_name, g_tup, g_sub, gs_nil, gs_cons, s_nil, s_cons, x_asg, x_ret, x_ifs, r_comp, o_addLN, o_sub, o_eqI, if_t, if_f, at_t, at_f, tr_b, tr_l, va_v, kp_v, kp_n, li_r, sc_l, bi_lenL, bi_lenR, ix_l, ix_r, st_set, su_i, put_r, hp_set, fl_n, fl_r, ou_r, ca_G, re_t, co_x, u_kOp1, u_kOp2, u_kTup, u_kLst, u_kIx1, u_kSl1, kSl2, kSl3, oi_n, oi_s, sl_r, u_kSlL, u_kBi, u_kB1, u_kB2, u_kV1, u_kV2, u_kV3, kRng, u_kSub1, u_kSub2, u_kGs, u_kNx, u_kAsg, u_kRt, u_kRetS, u_kLen, kHeap, u_kPut, u_kPut1, wipe, kO_some, true_and, and_true, List.length_cons, List.length_nil, List.getElem?_cons_zero, List.getElem?_cons_succ, List.set_cons_zero, List.set_cons_succ, Nat.reduceAdd, szL, Nat.reduceLeDiff, List.nil_append, List.cons_append, Int.reduceToNat, List.length_map])
set_option hygiene false in
local macro_rules | `(tactic| fail "qs") => `(tactic| first
  | with_reducible refine if_s (fun hq => ?_) (fun hq => ?_)
  | with_reducible refine at_s (fun hq => ?_) (fun hq => ?_)
  | with_reducible refine ot_s (fun hq => ?_) (fun hq => ?_)
  | with_reducible refine it_s (fun hq => ?_) (fun hq => ?_)
  | with_reducible refine ad_s (fun hq => ?_) (fun hq => ?_)
  | with_reducible refine or_s (fun hq => ?_) (fun hq => ?_)
  | with_reducible refine ch_s (fun hq => ?_) (fun hq => ?_)
  | with_reducible refine c1_s (fun hq => ?_) (fun hq => ?_))
local macro_rules | `(tactic| fail "sd") => `(tactic| first
  | assumption
  | omega
  | exact smR (by omega) (by omega)
  | exact bdI (by omega) (by omega)
  | exact And.intro (bdI (by omega) (by omega)) (bdI (by omega) (by omega))
  | exact smL (by omega) (by omega)
  | decide)
set_option hygiene false in
local macro_rules | `(tactic| fail "g1") => `(tactic| first
  | fail "st"
  | (fail "qs" <;> (try simp only [decide_eq_true_eq, decide_eq_false_iff_not, Bool.not_eq_true', Bool.not_eq_false', beq_iff_eq, bne_iff_ne, ne_eq, Int.not_le, Int.not_lt] at hq))
  | ((with_reducible apply And.intro); (case left => fail "sd"))
  | fail "none")
set_option hygiene false in
local macro_rules | `(tactic| fail "go") => `(tactic| repeat' fail "g1")
set_option hygiene false in
local macro_rules | `(tactic| fail "ha") => `(tactic| first
  | assumption
  | exact HasA.set (by assumption)
  | fail "none")
set_option hygiene false in
local macro_rules | `(tactic| fail "dr") => `(tactic| first
  | (with_reducible refine draw_A hD (by fail "ha") (by omega) (by omega) ?_; intro v c hc hv0 hv1)
  | (with_reducible refine spend_A hS (by fail "ha") ?_; intro b c hc)
  | (with_reducible refine number_A hD hN (by fail "ha") ?_; intro v c hc hv0 hv1)
  | (with_reducible refine few_A hD hF (by fail "ha") (by omega) (by omega) ?_; intro v c hc hv0 hv1)
  | fail "none")
set_option hygiene false in
local macro_rules | `(tactic| fail "gd") => `(tactic| repeat' (first | fail "g1" | fail "dr" | fail "none"))

set_option hygiene false in
local macro_rules | `(tactic| fail "ob") => `(tactic| simp only [hs_next, List.map_cons, List.map_nil, Row.v, String.reduceEq, reduceIte, List.mem_cons, List.not_mem_nil, or_false, true_and, and_true, kO_some, List.length_cons, List.length_nil, Nat.reduceAdd, Nat.reduceLT, eq_self, Bool.true_and])
set_option hygiene false in
local macro_rules | `(tactic| fail "ma") => `(tactic| first | (rw [at_e ha1]) | (rw [at_e ha2]) | (rw [at_e ha3]) | (rw [at_e ha4]) | (rw [ati_e ha1]) | (rw [ati_e ha2]) | (rw [ati_e ha3]) | (rw [ati_e ha4]) | (rw [at_n (by (first | omega | (rw [List.length_map]; omega)))]; try rw [List.getElem_map]) | (rw [ix_nat (by (first | omega | (simp only [List.length_range, List.length_map]; omega)))]))
local macro_rules | `(tactic| fail "sx") => `(tactic| first | omega | (simp only [hs_next]; omega))
local macro_rules | `(tactic| fail "rd") => `(tactic| repeat' (first | rw [hp_get] | (rw [hs_ne (by fail "sx")]) | (rw [hn_get2 (by first | rfl | fail "sx")]) | (rw [hn_ne (by fail "sx")]) | rw [hb_c]))
set_option hygiene false in
local macro_rules | `(tactic| fail "oo") => `(tactic| repeat' (first | fail "st" | simp only [hx] | simp only [hy] | simp only [hz] | simp only [hu] | simp only [hv] | simp only [hw] | fail "ob" | (with_reducible refine hw1 _ _ _ ?_) | (with_reducible refine hw2 _ _ _ ?_) | (with_reducible refine hw3 _ _ _ ?_)  | (rw [hs_ne (by omega)]) | (rw [hn_ne (by (first | omega | (simp only [hs_next]; omega)))]) | fail "ma" | fail "dr" | fail "g1" | fail "none"))
set_option hygiene false in
local macro_rules | `(tactic| fail "on") => `(tactic| repeat' (first | fail "st" | simp only [hx] | simp only [hy] | simp only [hz] | simp only [hu] | simp only [hv] | simp only [hw] | fail "ob" | (with_reducible refine hw1 _ _ _ ?_) | (with_reducible refine hw2 _ _ _ ?_) | (with_reducible refine hw3 _ _ _ ?_)  | (rw [hs_ne (by omega)]) | (rw [hn_ne (by (first | omega | (simp only [hs_next]; omega)))]) | fail "ma" | fail "dr" | ((with_reducible apply And.intro); (case left => fail "sd")) | fail "none"))

structure PairAny (q : Int × Int) : Prop where
  a0 : -1 ≤ q.1
  a1 : q.1 ≤ 20
  b0 : -1 ≤ q.2
  b1 : q.2 ≤ 20
structure RowAny (r : Row) : Prop where
  e0 : 0 ≤ r.1
  e1 : r.1 ≤ 10
  l : r.2.length ≤ 10
  q : ∀ q, q ∈ r.2 → PairAny q
structure RAny (rs : List Row) : Prop where
  l : rs.length ≤ 20
  r : ∀ r, r ∈ rs → RowAny r
theorem RowsOk.any {rs : List Row} (k : RowsOk 8 rs) : RAny rs := by
  refine ⟨by have := k.l1; omega, fun r hr => ?_⟩
  obtain ⟨i, hi, rfl⟩ := List.mem_iff_getElem.mp hr
  obtain ⟨e0, e1, I⟩ := k.e i _ (List.getElem?_eq_getElem hi)
  refine ⟨by omega, by omega, by have := I.ln; omega, fun q hq => ?_⟩
  obtain ⟨q0, _, q2, x, hx, hl⟩ := I.m q hq
  rw [List.getElem?_map] at hx
  cases hr : rs[q.1.toNat]? with
  | none => rw [hr] at hx; cases hx
  | some y =>
    rw [hr] at hx
    cases hx
    obtain ⟨y0, y1, _⟩ := k.e _ _ hr
    have hlt := (List.getElem?_eq_some_iff.mp hr).1
    have := k.l1
    exact ⟨by omega, by omega, by omega, by omega⟩
theorem RAny.set {rs : List Row} {r : Row} (a : RAny rs) (h : RowAny r) (i : Nat) : RAny (rs.set i r) := ⟨by rw [List.length_set]; exact a.l, fun x hx => by
  rcases List.mem_or_eq_of_mem_set hx with hx | rfl
  · exact a.r x hx
  · exact h⟩
theorem RowAny.snoc {e : Int} {l : List (Int × Int)} {q : Int × Int} (h : RowAny (e, l)) (hl : l.length ≤ 5) (hq : PairAny q) : RowAny (e, l ++ [q]) := ⟨h.e0, h.e1, by simp only [List.length_append, List.length_cons, List.length_nil]; omega, fun x hx => by
  rcases List.mem_append.mp hx with hx | hx
  · exact h.q x hx
  · simp only [List.mem_cons, List.not_mem_nil, or_false] at hx
    subst hx
    exact hq⟩
theorem row_snoc {e : Int} {l : List (Int × Int)} {x y : Int} : Val.tup [.int e, .lst (l.map pairV ++ [.tup [.int x, .int y]])] = Row.v (e, l ++ [(x, y)]) := by
  unfold Row.v
  rw [List.map_append]
  rfl
theorem rngL_map : ∀ (n : Nat) (lo : Int), rngL lo n = (List.range n).map fun (i : Nat) => Val.int (lo + i)
  | 0, lo => rfl
  | n + 1, lo => by
    rw [rngL, rngL_map n (lo + 1), List.range_succ_eq_map, List.map_cons, List.map_map]
    congr 1
    · simp
    · apply List.map_congr_left
      intro i _
      simp only [Function.comp]
      congr 1
      omega
section
variable {P : Prog} {lim k : Nat} {h : AHeap} {p : Nat} {ns : List Int} {Φ : Val → AHeap → Prop} {Ψ : String → Val → AHeap → Prop}
theorem o_addRN {s : St} {Φ : EV → St → Prop} {Ψ : XK} {n : Nat} {xs ys : List Val} (hx : s.h.c n = some (.lst xs)) : W2 .add (.val (.ref n)) (.new ys) s Φ Ψ = (xs.length + ys.length ≤ szL ∧ Φ (.new (xs ++ ys)) s) := by
  refine W2_chk ?_
  have e : EV.list (.val (.ref n)) s = some xs := by simp only [EV.list, hx]
  have e2 : EV.list (.new ys) s = some ys := rfl
  have e3 : op2 .add (.val (.ref n)) (.new ys) s = Res.get (EV.list (.val (.ref n)) s) (fun xs => Res.get (EV.list (.new ys) s) fun ys => Res.chk (xs.length + ys.length ≤ szL) (.ok (EV.new (xs ++ ys)) s)) := by
    rfl
  rw [e3, e, e2]
  rfl
theorem drawn_rows_spec (hD : P "_law_draw" = some IX.b_law_draw) (hR : P "_law_rows" = some IX.b_law_rows_k02h) (hP : P "_law_drawn_rows" = some IX.b_law_drawn_rows_k02h) (hp : HasA h p ns) (hf : h.Fresh)
    (hΦ : ∀ rs a h', RAny rs → h'.c a = some (.lst (rs.map Row.v)) → h'.Fresh → a < h'.next → Φ (.ref a) h') : WR P lim (k + 3) "_law_drawn_rows" [.ref p] h Φ Ψ := by
  rw [r_enter hP rfl]
  unfold IX.b_law_drawn_rows_k02h start
  simp only [List.map_cons, List.map_nil, List.cons_append, List.nil_append, Nat.reduceSub, List.replicate]
  have hpn : p < h.next := Exists.elim hp fun c00 hc00 => Fresh.lt hf hc00.1
  fail "st"
  refine rows_specH hD hR hp (by omega) (by omega) hf fun rs c ok hc => ?_
  have an := ok.any
  have l0 := ok.l0
  have l1 := ok.l1
  have hx : ((h.new (.lst (rs.map Row.v))).set p c).c h.next = some (.lst (rs.map Row.v)) := by rw [hs_ne (by omega)]; exact hn_get _
  have hA : HasA ((h.new (.lst (rs.map Row.v))).set p c) p ns := HasA.set hc
  have hF : ((h.new (.lst (rs.map Row.v))).set p c).Fresh := Exists.elim hp fun c00 hc00 => Fresh.set (Fresh.new hf _) (by rw [hn_ne (by omega)]; exact hc00.1)
  have hn : h.next < ((h.new (.lst (rs.map Row.v))).set p c).next := by rw [hs_next, hn_next]; omega
  generalize (h.new (.lst (rs.map Row.v))).set p c = h1 at *
  generalize h.next = a at *
  clear hp hf hc
  fail "st"
  refine draw_A hD hA (by omega) (by omega) fun w c1 hc1 w0 w1 => ?_
  have hset : ∀ {h : AHeap} c, HasA h p ns → h.Fresh → (h.set p c).Fresh := fun c hA hF => Exists.elim hA fun c00 hc00 => Fresh.set hF hc00.1
  have hF1 := hset c1 hA hF
  have hA1 : HasA (h1.set p c1) p ns := HasA.set hc1
  have hx1 : (h1.set p c1).c a = some (.lst (rs.map Row.v)) := by rw [hs_ne (by omega)]; exact hx
  have hn1 : a < (h1.set p c1).next := by rw [hs_next]; exact hn
  generalize h1.set p c1 = h2 at *
  clear hA hF hx hn hc1
  have hx := hx1
  fail "oo"
  have hF2 := hset c hA1 hF1
  have hA2 : HasA (h2.set p c) p ns := HasA.set hc
  have hx2 : (h2.set p c).c a = some (.lst (rs.map Row.v)) := by rw [hs_ne (by omega)]; exact hx1
  have hn2 : a < (h2.set p c).next := by rw [hs_next]; exact hn1
  generalize h2.set p c = h3 at *
  clear hA1 hF1 hx hx1 hn1 hc
  have hx := hx2
  obtain ⟨pl, rfl⟩ := Int.eq_ofNat_of_zero_le hv0
  have ha1 : (rs.map Row.v)[pl]? = some (Row.v (rs[pl]'(by omega))) := by rw [List.getElem?_map, List.getElem?_eq_getElem (by omega)]; rfl
  have ra := an.r _ (List.getElem_mem (show pl < rs.length by omega))
  have r5 := (ok.e pl _ (List.getElem?_eq_getElem (show pl < rs.length by omega))).2.2.ln
  have hset2 : ∀ c (r' : Row), ((h3.set p c).set a (.lst ((rs.map Row.v).set pl r'.v))).Fresh := fun c r' => Fresh.set (hset c hA2 hF2) (by rw [hs_ne (by omega)]; exact hx2)
  have done : ∀ (r' : Row) (c : Cell), RowAny r' → Φ (.ref a) ((h3.set p c).set a (.lst ((rs.map Row.v).set pl r'.v))) := fun r' c hr => hΦ (rs.set pl r') a _ (an.set hr pl) (by rw [hp_get, List.map_set]) (hset2 c r') (by rw [hs_next, hs_next]; exact hn2)
  generalize hr : rs[pl]'(by omega) = r at *
  unfold Row.v at ha1
  have hp := hx
  clear hx
  rcases (show w = 1 ∨ w = 2 ∨ w = 3 ∨ w = 4 ∨ w = 5 ∨ w = 6 ∨ (w ≠ 1 ∧ w ≠ 2 ∧ w ≠ 3 ∧ w ≠ 4 ∧ w ≠ 5 ∧ w ≠ 6) by omega) with e | e | e | e | e | e | e
  · have hx : decide (w = 1) = true := decide_eq_true (by omega)
    have hy : decide (w = 2) = false := decide_eq_false (by omega)
    have hz : decide (w = 3) = false := decide_eq_false (by omega)
    have hu : decide (w = 4) = false := decide_eq_false (by omega)
    have hv : decide (w = 5) = false := decide_eq_false (by omega)
    have hw : decide (w = 6) = false := decide_eq_false (by omega)
    fail "oo"
    rw [hr]
    exact done (v, r.2) c ⟨by omega, by omega, ra.l, ra.q⟩
  · have hx : decide (w = 1) = false := decide_eq_false (by omega)
    have hy : decide (w = 2) = true := decide_eq_true (by omega)
    have hz : decide (w = 3) = false := decide_eq_false (by omega)
    have hu : decide (w = 4) = false := decide_eq_false (by omega)
    have hv : decide (w = 5) = false := decide_eq_false (by omega)
    have hw : decide (w = 6) = false := decide_eq_false (by omega)
    fail "oo"
    · rw [hr] at hq
      rw [hr]
      have hl : 0 < r.2.length := by
        cases h : r.2 with
        | nil => rw [h] at hq; simp at hq
        | cons x l => rw [List.length_cons]; omega
      refine draw_A (n := (r.2.length : Int)) hD hA2 (by omega) (by omega) fun u c2 hc2 u0 u1 => ?_
      obtain ⟨u, rfl⟩ := Int.eq_ofNat_of_zero_le u0
      have hu2 : u < r.2.length := by omega
      have ha2 : (r.2.map pairV)[u]? = some (pairV (r.2[u])) := by rw [List.getElem?_map, List.getElem?_eq_getElem hu2]; rfl
      have hqa := ra.q _ (List.getElem_mem hu2)
      fail "oo"
      have eq2 : Val.tup [.int r.1, .lst (r.2.map pairV ++ [pairV (r.2[u])])] = Row.v (r.1, r.2 ++ [r.2[u]]) := by unfold Row.v; rw [List.map_append]; rfl
      rw [eq2]
      exact done _ _ (ra.snoc r5 hqa)
    · exact hΦ rs a _ an hx2 hF2 hn2
  · have hx : decide (w = 1) = false := decide_eq_false (by omega)
    have hy : decide (w = 2) = false := decide_eq_false (by omega)
    have hz : decide (w = 3) = true := decide_eq_true (by omega)
    have hu : decide (w = 4) = false := decide_eq_false (by omega)
    have hv : decide (w = 5) = false := decide_eq_false (by omega)
    have hw : decide (w = 6) = false := decide_eq_false (by omega)
    fail "oo"
    rw [hr]
    refine ⟨by omega, ?_⟩
    rw [row_snoc]
    exact done _ _ (ra.snoc r5 ⟨by omega, by omega, by omega, by omega⟩)
  · have hx : decide (w = 1) = false := decide_eq_false (by omega)
    have hy : decide (w = 2) = false := decide_eq_false (by omega)
    have hz : decide (w = 3) = false := decide_eq_false (by omega)
    have hu : decide (w = 4) = true := decide_eq_true (by omega)
    have hv : decide (w = 5) = false := decide_eq_false (by omega)
    have hw : decide (w = 6) = false := decide_eq_false (by omega)
    fail "oo"
    obtain ⟨u, rfl⟩ := Int.eq_ofNat_of_zero_le hv0
    rw [Int.toNat_natCast, rngL_map]
    refine WC_map (List.range u) _ (fun _ => Row.v (1, [])) (by simp; omega) (fun i hi => ?_) ?_
    · fail "oo"
    · fail "oo"
      rw [o_addRN (show (h3.set p c).c a = some (.lst (rs.map Row.v)) by rw [hs_ne (by omega)]; exact hx2)]
      refine ⟨by rw [List.length_map, List.length_map, List.length_range, show szL = 16777216 from rfl]; omega, ?_⟩
      fail "oo"
      have em : ((List.range u).map fun (_ : Nat) => Val.tup [.int 1, .lst []]) = ((List.range u).map fun (_ : Nat) => ((1, []) : Row)).map Row.v := by rw [List.map_map]; rfl
      rw [em, ← List.map_append]
      refine hΦ (rs ++ (List.range u).map fun _ => (1, [])) _ _ ⟨by simp only [List.length_append, List.length_map, List.length_range]; omega, fun r hr => ?_⟩ (hn_get _) (Fresh.new (hset _ hA2 hF2) _) (by rw [hn_next]; exact Nat.lt_succ_self _)
      rcases List.mem_append.mp hr with hr | hr
      · exact an.r r hr
      · simp only [List.mem_map] at hr
        obtain ⟨_, _, rfl⟩ := hr
        exact ⟨by decide, by decide, by simp, fun q hq => by cases hq⟩
  · have hx : decide (w = 1) = false := decide_eq_false (by omega)
    have hy : decide (w = 2) = false := decide_eq_false (by omega)
    have hz : decide (w = 3) = false := decide_eq_false (by omega)
    have hu : decide (w = 4) = false := decide_eq_false (by omega)
    have hv : decide (w = 5) = true := decide_eq_true (by omega)
    have hw : decide (w = 6) = false := decide_eq_false (by omega)
    fail "oo"
    obtain ⟨u, rfl⟩ := Int.eq_ofNat_of_zero_le hv0
    rw [cut_map]
    refine hΦ (rs.take u) _ _ ⟨by rw [List.length_take]; have := an.l; omega, fun r hr => an.r r (List.mem_of_mem_take hr)⟩ ?_ (Fresh.new (hset c hA2 hF2) _) (by rw [hn_next]; exact Nat.lt_succ_self _)
    exact hn_get _
  · have hx : decide (w = 1) = false := decide_eq_false (by omega)
    have hy : decide (w = 2) = false := decide_eq_false (by omega)
    have hz : decide (w = 3) = false := decide_eq_false (by omega)
    have hu : decide (w = 4) = false := decide_eq_false (by omega)
    have hv : decide (w = 5) = false := decide_eq_false (by omega)
    have hw : decide (w = 6) = true := decide_eq_true (by omega)
    fail "oo"
    obtain ⟨u, rfl⟩ := Int.eq_ofNat_of_zero_le hv0
    rw [Int.toNat_natCast, rngL_map]
    refine WC_map (List.range u) _ (fun i => pairV (1, (i : Int))) (by simp; omega) (fun i hi => ?_) ?_
    · fail "oo"
      rw [Int.zero_add]
      rfl
    · fail "oo"
      obtain ⟨y, rfl⟩ := Int.eq_ofNat_of_zero_le hv0
      rw [Int.toNat_natCast, rngL_map]
      refine WC_map (List.range y) _ (fun i => pairV (0, (i : Int))) (by simp; omega) (fun i hi => ?_) ?_
      · fail "oo"
        rw [Int.zero_add]
        rfl
      · fail "oo"
        have em : ∀ (x : Int) (n : Nat), Val.tup [.int 8, .lst ((List.range n).map fun (i : Nat) => pairV (x, (i : Int)))] = Row.v (8, (List.range n).map fun (i : Nat) => (x, (i : Int))) := fun x n => by unfold Row.v; rw [List.map_map]; rfl
        rw [em, em]
        refine hΦ [(8, _), (8, _)] _ _ ⟨by simp, fun r hr => ?_⟩ (hn_get _) (Fresh.new (hset _ hA2 hF2) _) (by rw [hn_next]; exact Nat.lt_succ_self _)
        simp only [List.mem_cons, List.not_mem_nil, or_false] at hr
        rcases hr with rfl | rfl
        all_goals
          refine ⟨by simp only; omega, by simp only; omega, by simp only [List.length_map, List.length_range]; omega, fun q hq => ?_⟩
          simp only [List.mem_map, List.mem_range] at hq
          obtain ⟨i, hi, rfl⟩ := hq
          exact ⟨by simp only; omega, by simp only; omega, by simp only; omega, by simp only; omega⟩
  · have hx : decide (w = 1) = false := decide_eq_false (by omega)
    have hy : decide (w = 2) = false := decide_eq_false (by omega)
    have hz : decide (w = 3) = false := decide_eq_false (by omega)
    have hu : decide (w = 4) = false := decide_eq_false (by omega)
    have hv : decide (w = 5) = false := decide_eq_false (by omega)
    have hw : decide (w = 6) = false := decide_eq_false (by omega)
    fail "oo"
    exact hΦ rs a _ an hx2 hF2 hn2
end
end IA

set_option Elab.async false
set_option linter.all false
set_option maxRecDepth 100000
set_option maxHeartbeats 4000000
/-! ## Interfaces of any rows (law k02; own text) -/
namespace IA
set_option hygiene false in
local macro_rules | `(tactic| fail "st") => `(tactic| first | simp only [hp, r_c, r_var, r_op, r_ch, r_ix, r_sl, r_fld, r_bi, r_call, r_meth, t_op, t_ch, t_call, t_meth, t_or, t_not, b_nil, b_cons, v_nil, v_cons, i_seq, i_enum, i_rng, g_name, g_tup, g_fld, gs_nil, gs_cons, s_nil, s_cons, x_asg, x_ret, x_ifs, x_raise, x_for, r_comp, o_lt, o_le, o_gt, o_eqI, if_t, if_f, ot_t, nt, tr_b, va_v, kp_v, li_r, sc_l, se_l, se_n, bi_lenT, bi_lenL, bi_lenR, bi_tuple, bi_min2, ix_t, ix_l, ix_r, at_0, at_1, st_set, sq_l, sq_et, fl_n, fl_r, ou_n, ou_r, ca_G, re_t, fo_x, co_x, ki_n, ki_r, u_kOp1, u_kOp2, u_kCh1, u_kCh2, u_kIx1, u_kSl1, kSl2, kSl3, oi_n, oi_s, sl_t, sl_l, u_kFld, u_kBi, u_kVl, u_kB1, u_kB2, u_kV1, u_kV2, u_kV3, kRng, u_kFst1, u_kFst2, u_kGs, u_kNx, u_kAsg, u_kRt, u_kRetS, u_kRs, u_kRs1, u_kI1, u_kLen, u_kTp, kMeth1, u_kExc, u_kOutX, wipe, kO_some, true_and, and_true, List.length_cons, List.length_nil, List.getElem?_cons_zero, List.getElem?_cons_succ, List.set_cons_zero, List.set_cons_succ, Nat.reduceAdd, Nat.reduceLeDiff, List.nil_append, List.cons_append, decide_true, Bool.not_true, Bool.not_false, Int.reduceToNat, List.length_map] | simp only [r_c, r_var, r_op, r_ch, r_ix, r_sl, r_fld, r_bi, r_call, r_meth, t_op, t_ch, t_call, t_meth, t_or, t_not, b_nil, b_cons, v_nil, v_cons, i_seq, i_enum, i_rng, g_name, g_tup, g_fld, gs_nil, gs_cons, s_nil, s_cons, x_asg, x_ret, x_ifs, x_raise, x_for, r_comp, o_lt, o_le, o_gt, o_eqI, if_t, if_f, ot_t, nt, tr_b, va_v, kp_v, li_r, sc_l, se_l, se_n, bi_lenT, bi_lenL, bi_lenR, bi_tuple, bi_min2, ix_t, ix_l, ix_r, at_0, at_1, st_set, sq_l, sq_et, fl_n, fl_r, ou_n, ou_r, ca_G, re_t, fo_x, co_x, ki_n, ki_r, u_kOp1, u_kOp2, u_kCh1, u_kCh2, u_kIx1, u_kSl1, kSl2, kSl3, oi_n, oi_s, sl_t, sl_l, u_kFld, u_kBi, u_kVl, u_kB1, u_kB2, u_kV1, u_kV2, u_kV3, kRng, u_kFst1, u_kFst2, u_kGs, u_kNx, u_kAsg, u_kRt, u_kRetS, u_kRs, u_kRs1, u_kI1, u_kLen, u_kTp, kMeth1, u_kExc, u_kOutX, wipe, kO_some, true_and, and_true, List.length_cons, List.length_nil, List.getElem?_cons_zero, List.getElem?_cons_succ, List.set_cons_zero, List.set_cons_succ, Nat.reduceAdd, Nat.reduceLeDiff, List.nil_append, List.cons_append, decide_true, Bool.not_true, Bool.not_false, Int.reduceToNat, List.length_map])
set_option hygiene false in
local macro_rules | `(tactic| fail "qs") => `(tactic| first
  | with_reducible refine if_s (fun hq => ?_) (fun hq => ?_)
  | with_reducible refine at_s (fun hq => ?_) (fun hq => ?_)
  | with_reducible refine ot_s (fun hq => ?_) (fun hq => ?_)
  | with_reducible refine it_s (fun hq => ?_) (fun hq => ?_)
  | with_reducible refine ad_s (fun hq => ?_) (fun hq => ?_)
  | with_reducible refine or_s (fun hq => ?_) (fun hq => ?_)
  | with_reducible refine ch_s (fun hq => ?_) (fun hq => ?_)
  | with_reducible refine c1_s (fun hq => ?_) (fun hq => ?_))
local macro_rules | `(tactic| fail "sd") => `(tactic| first
  | assumption
  | omega
  | exact smR (by omega) (by omega)
  | exact bdI (by omega) (by omega)
  | exact And.intro (bdI (by omega) (by omega)) (bdI (by omega) (by omega))
  | exact smL (by omega) (by omega)
  | decide)
set_option hygiene false in
local macro_rules | `(tactic| fail "g1") => `(tactic| first
  | fail "st"
  | (fail "qs" <;> (try simp only [decide_eq_true_eq, decide_eq_false_iff_not, Bool.not_eq_true', Bool.not_eq_false', beq_iff_eq, bne_iff_ne, ne_eq, Int.not_le, Int.not_lt] at hq))
  | ((with_reducible apply And.intro); (case left => fail "sd"))
  | fail "none")
set_option hygiene false in
local macro_rules | `(tactic| fail "go") => `(tactic| repeat' fail "g1")
set_option hygiene false in
local macro_rules | `(tactic| fail "ha") => `(tactic| first
  | assumption
  | exact HasA.set (by assumption)
  | fail "none")
set_option hygiene false in
local macro_rules | `(tactic| fail "dr") => `(tactic| first
  | (with_reducible refine draw_A hD (by fail "ha") (by omega) (by omega) ?_; intro v c hc hv0 hv1)
  | (with_reducible refine spend_A hS (by fail "ha") ?_; intro b c hc)
  | (with_reducible refine number_A hD hN (by fail "ha") ?_; intro v c hc hv0 hv1)
  | (with_reducible refine few_A hD hF (by fail "ha") (by omega) (by omega) ?_; intro v c hc hv0 hv1)
  | fail "none")
set_option hygiene false in
local macro_rules | `(tactic| fail "gd") => `(tactic| repeat' (first | fail "g1" | fail "dr" | fail "none"))

set_option hygiene false in
local macro_rules | `(tactic| fail "ob") => `(tactic| simp only [fd_r, cf_i, fs_r, cs_i, pf_n, pf_c, hn_get, hn_set, G_call, Option.map_some, List.map_cons, List.map_nil, Row.v, ic_c, ic_i, o_memT, u_kMeth, String.reduceEq, reduceIte, List.mem_cons, List.not_mem_nil, or_false, true_and, and_true, kO_some, u_kVl, List.length_cons, List.length_nil, Nat.reduceAdd, Nat.reduceLT, eq_self, decide_true, Bool.true_and, look, Option.isNone_none, goodL_pair, any_pair2, cut_map, good2, dep2])
set_option hygiene false in
local macro_rules | `(tactic| fail "ma") => `(tactic| first | (rw [at_e ha1]) | (rw [at_e ha2]) | (rw [at_e ha3]) | (rw [at_e ha4]) | (rw [ati_e ha1]) | (rw [ati_e ha2]) | (rw [ati_e ha3]) | (rw [ati_e ha4]) | (rw [at_n (by (first | omega | (rw [List.length_map]; omega)))]; try rw [List.getElem_map]) | (rw [ix_nat (by (first | omega | (simp only [List.length_map]; omega)))]))
local macro_rules | `(tactic| fail "sx") => `(tactic| first | omega | (simp only []; omega))
local macro_rules | `(tactic| fail "rd") => `(tactic| repeat' (first | rw [hp_get] | (rw [hs_ne (by fail "sx")]) | (rw [hn_get2 (by first | rfl | fail "sx")]) | (rw [hn_ne (by fail "sx")]) | rw [hb_c]))
set_option hygiene false in
local macro_rules | `(tactic| fail "oo") => `(tactic| repeat' (first | fail "st" | simp only [hx] | simp only [hy] | simp only [hz] | simp only [hu] | simp only [hv] | simp only [hw] | fail "ob" | (with_reducible refine hw1 _ _ _ ?_) | (with_reducible refine hw2 _ _ _ ?_) | (with_reducible refine hw3 _ _ _ ?_)  | (rw [hs_ne (by omega)]) | (rw [hn_ne (by (first | omega | (simp only []; omega)))]) | fail "ma" | fail "dr" | fail "g1" | fail "none"))
set_option hygiene false in
local macro_rules | `(tactic| fail "on") => `(tactic| repeat' (first | fail "st" | simp only [hx] | simp only [hy] | simp only [hz] | simp only [hu] | simp only [hv] | simp only [hw] | fail "ob" | (with_reducible refine hw1 _ _ _ ?_) | (with_reducible refine hw2 _ _ _ ?_) | (with_reducible refine hw3 _ _ _ ?_)  | (rw [hs_ne (by omega)]) | (rw [hn_ne (by (first | omega | (simp only []; omega)))]) | fail "ma" | fail "dr" | ((with_reducible apply And.intro); (case left => fail "sd")) | fail "none"))

structure GoodQ (rs : List Row) (i : Nat) (l : List (Int × Int)) (m : Nat) (q : Int × Int) : Prop where
  ne : q.1 ≠ i
  c0 : 0 ≤ q.1
  c1 : q.1 < rs.length
  nm : q ∉ l.take m
  p0 : 0 ≤ q.2
  p1 : ∀ r, rs[q.1.toNat]? = some r → q.2 < r.1
structure FitR (rs : List Row) (i : Nat) (r : Row) : Prop where
  e0 : 1 ≤ r.1
  e1 : r.1 ≤ 8
  l : r.2.length ≤ 8
  q : ∀ m q, r.2[m]? = some q → GoodQ rs i r.2 m q
def Fit (rs : List Row) (i : Nat) : Prop := ∀ r, rs[i]? = some r → FitR rs i r
structure Good (rs : List Row) : Prop where
  l0 : 1 ≤ rs.length
  l1 : rs.length ≤ 8
  f : ∀ i, i < rs.length → Fit rs i
/-- the first component that does not fit -/
def Bad (rs : List Row) (b : Nat) : Prop := (8 < rs.length ∧ b = 8) ∨ (rs.length ≤ 8 ∧ b < rs.length ∧ ¬ Fit rs b ∧ ∀ j, j < b → Fit rs j) ∨ (rs.length = 0 ∧ b = 0)
theorem Bad.one {rs : List Row} {a b : Nat} (h : Bad rs a) (g : Bad rs b) : a = b := by
  rcases h with h | h | h <;> rcases g with g | g | g <;> try omega
  rcases Nat.lt_trichotomy a b with z | z | z
  · exact absurd (g.2.2.2 a z) h.2.2.1
  · exact z
  · exact absurd (h.2.2.2 b z) g.2.2.1
theorem Bad.no {rs : List Row} {a : Nat} (h : Bad rs a) (g : Good rs) : False := by
  have := g.l0
  have := g.l1
  rcases h with h | h | h
  · omega
  · exact h.2.2.1 (g.f a h.2.1)
  · omega
section
variable {P : Prog} {lim k : Nat} {h : AHeap} {p : Nat} {Φ : Val → AHeap → Prop} {Ψ : String → Val → AHeap → Prop}
theorem fits_any (hP : P ("Interface" ++ "." ++ "fits") = some IX.b_Interface_fits) {rs : List Row} (an : RAny rs) {q i : Nat} (hi : i < rs.length) (hp : h.c q = some (.ins "Interface" (ifcF rs)))
    (h1 : Fit rs i → Φ (.bl true) h) (h2 : ¬ Fit rs i → Φ (.bl false) h) : WR P lim (k + 1) ("Interface" ++ "." ++ "fits") [.ref q, .int (i : Int)] h Φ Ψ := by
  rw [r_enter hP rfl]
  unfold IX.b_Interface_fits start
  simp only [List.map_cons, List.map_nil, List.cons_append, List.nil_append, Nat.reduceSub, List.replicate]
  have hl := an.l
  have er : rs[i]? = some rs[i] := List.getElem?_eq_getElem hi
  have ra := an.r _ (List.getElem_mem hi)
  have ral := ra.l
  have ra0 := ra.e0
  have ra1 := ra.e1
  unfold ifcF expV impV at hp
  fail "oo"
  · exact h2 fun F => by have := (F _ er).e1; omega
  · exact h2 fun F => by have := (F _ er).l; omega
  rotate_left
  · exact h2 fun F => by have := (F _ er).e0; omega
  generalize hL : rs[i].2 = L at *
  have qs : ¬ Fit rs i → Φ (.bl false) h := h2
  obtain ⟨I, hI⟩ : ∃ I : Nat → St → Prop, ∀ j st, I j st ↔ ∃ x2 x3 x4 x5, (∀ m q, m < j → L[m]? = some q → GoodQ rs i L m q) ∧ st = ⟨[some (.v (.ref q)), some (.v (.int (i : Int))), x2, x3, x4, x5], h⟩ := ⟨_, fun _ _ => Iff.rfl⟩
  refine WF_inv I ((hI _ _).mpr ⟨_, _, _, _, fun m q hm => absurd hm (Nat.not_lt_zero m), rfl⟩) ?_ ?_
  · intro j x st hx hs
    obtain ⟨x2, x3, x4, x5, gd, rfl⟩ := (hI _ _).mp hs
    obtain ⟨v, hv, rfl⟩ := enumL_some hx
    rw [List.getElem?_map] at hv
    cases e : L[j]? with
    | none => rw [e] at hv; cases hv
    | some u =>
      rw [e] at hv
      simp only [Option.map_some, Option.some.injEq] at hv
      subst hv
      have hj := (List.getElem?_eq_some_iff.mp e).1
      have pa := ra.q u (by rw [hL]; exact List.mem_of_getElem? e)
      have FG : Fit rs i → GoodQ rs i L j u := fun F => by
        have := (F _ er).q j u (by rw [hL]; exact e)
        rw [hL] at this
        exact this
      obtain ⟨u, w⟩ := u
      obtain ⟨pa0, pa1, pb0, pb1⟩ := pa
      simp only at pa0 pa1 pb0 pb1
      unfold pairV
      fail "oo"
      · exact h2 fun F => (FG F).ne (by assumption)
      · exact h2 fun F => by have := (FG F).c1; simp only at this; omega
      · rw [hL, Nat.zero_add] at hq
        exact h2 fun F => (FG F).nm hq
      · obtain ⟨c, rfl⟩ := Int.eq_ofNat_of_zero_le (show 0 ≤ u by assumption)
        have hc : c < rs.length := by omega
        have ec : rs[((c : Int), w).1.toNat]? = some rs[c] := by rw [Int.toNat_natCast]; exact List.getElem?_eq_getElem hc
        have rc := an.r _ (List.getElem_mem hc)
        have rc0 := rc.e0
        have rc1 := rc.e1
        have key : ¬ ((c : Int), w) ∈ L.take j := by
          rw [hL, Nat.zero_add] at *
          assumption
        fail "oo"
        · exact h2 fun F => by
            have := (FG F).p1 _ ec
            simp only at this
            omega
        · refine (hI _ _).mpr ⟨_, _, _, _, fun m q hm hq2 => ?_, rfl⟩
          rcases Nat.lt_succ_iff_lt_or_eq.mp hm with hm | rfl
          · exact gd m q hm hq2
          · rw [e] at hq2
            cases hq2
            refine ⟨by simp only; omega, by simp only; omega, by simp only; omega, key, by assumption, fun r hr => ?_⟩
            rw [ec] at hr
            cases hr
            assumption
      · exact h2 fun F => by have := (FG F).p0; simp only at this; omega
      · exact h2 fun F => by have := (FG F).c0; simp only at this; omega
  · intro st hs
    obtain ⟨x2, x3, x4, x5, gd, rfl⟩ := (hI _ _).mp hs
    fail "oo"
    refine h1 fun r e => ?_
    rw [er] at e
    cases e
    refine ⟨by omega, by omega, by rw [hL]; omega, fun m q hq => ?_⟩
    rw [hL] at hq ⊢
    refine gd m q ?_ hq
    rw [enumL_len, List.length_map]
    exact (List.getElem?_eq_some_iff.mp hq).1
theorem interface_any (hI : P ("Interface" ++ ".__init__") = some IX.b_Interface_ini) (hF : P ("Interface" ++ "." ++ "fits") = some IX.b_Interface_fits) {rs : List Row} (an : RAny rs) (hf : h.Fresh)
    {Φ : EV → St → Prop} {Ψ : XK} {σ : List (Option SV)} (h1 : Good rs → Φ (.val (ifcV rs)) ⟨σ, h.bump⟩) (h2 : ∀ b h', Bad rs b → h'.Fresh → (∀ a, a < h.next → h'.c a = h.c a) → h.next ≤ h'.next → Ψ "BadInterface" (.int (b : Int)) ⟨σ, h'⟩) :
    WR P lim (k + 2) ("Interface" ++ ".__init__") [.ref h.next, rowsV rs] (h.new (.ins "Interface" [])) (kMk1 Φ "Interface" h.next σ) (kExc Ψ σ) := by
  rw [r_enter hI rfl]
  unfold IX.b_Interface_ini start
  simp only [List.map_cons, List.map_nil, List.cons_append, List.nil_append, Nat.reduceSub, List.replicate]
  have hl := an.l
  unfold rowsV
  have ex : ∀ b, Bad rs b → Ψ "BadInterface" (.int (b : Int)) ⟨σ, h.new (.ins "Interface" (ifcF rs))⟩ := fun b hb => h2 b _ hb (Fresh.new hf _) (fun a ha => hn_ne (by omega)) (by rw [hn_next]; omega)
  fail "oo"
  refine WC_map rs Row.v (fun r => .int r.1) (by omega) (fun r hr => ?_) ?_
  · unfold Row.v
    fail "oo"
  fail "oo"
  refine WC_map rs Row.v (fun r => .tup (r.2.map pairV)) (by omega) (fun r hr => ?_) ?_
  · unfold Row.v
    fail "oo"
  fail "oo"
  · rw [if_pos hq]
    exact ex 8 (.inl ⟨by omega, rfl⟩)
  rotate_left
  · rw [if_neg (by omega), show (rs.length : Int) = ((0 : Nat) : Int) from by omega]
    exact ex 0 (.inr (.inr ⟨by omega, rfl⟩))
  obtain ⟨I, hI⟩ : ∃ I : Nat → St → Prop, ∀ j st, I j st ↔ ∃ x3, (∀ m, m < j → Fit rs m) ∧ st = ⟨[some (.v (.ref h.next)), some (.v (.lst (rs.map Row.v))), none, x3], h.new (.ins "Interface" (ifcF rs))⟩ := ⟨_, fun _ _ => Iff.rfl⟩
  refine WF_inv I ((hI _ _).mpr ⟨_, fun m hm => absurd hm (Nat.not_lt_zero m), rfl⟩) ?_ ?_
  · intro j x st hx hs
    obtain ⟨x3, fit, rfl⟩ := (hI _ _).mp hs
    obtain ⟨hj, rfl⟩ := rngL_some hx
    have hj2 : j < rs.length := by omega
    rw [Int.zero_add]
    fail "oo"
    unfold ifcF
    fail "oo"
    refine fits_any hF an hj2 (hn_get _) (fun F => ?_) (fun F => ?_)
    · fail "oo"
      exact (hI _ _).mpr ⟨_, fun m hm => (Nat.lt_succ_iff_lt_or_eq.mp hm).elim (fit m) (fun e => by rw [e]; exact F), rfl⟩
    · fail "oo"
      exact ex j (.inr (.inl ⟨by omega, hj2, F, fit⟩))
  · intro st hs
    obtain ⟨x3, fit, rfl⟩ := (hI _ _).mp hs
    rw [rngL_len, Int.toNat_natCast] at fit
    fail "oo"
    rw [mk_1 rfl hf]
    exact h1 ⟨by omega, by omega, fit⟩
theorem o_memQ {x : EV} {s : St} {l : List (Int × Int)} {q : Int × Int} {Φ : EV → St → Prop} {Ψ : XK} (hx : x.seq s = some (l.map pairV)) : W2 .mem (.val (pairV q)) x s Φ Ψ = Φ (.val (.bl (decide (q ∈ l)))) s := by
  have e : W2 .mem (.val (pairV q)) x s Φ Ψ = W (.get (x.seq s) fun ys => .chk (good (pairV q) = true ∧ goodL ys = true ∧ dep (pairV q) ≤ 60) (.ok (.val (.bl (ys.any fun z => veq z (pairV q)))) s)) Φ Ψ := rfl
  rw [e, hx]
  have ea : ((l.map pairV).any fun z => veq z (pairV q)) = decide (q ∈ l) := any_pair l q
  simp only [W_get, W_chk, kO_some, W_ok, ea]
  exact propext ⟨fun z => z.2, fun z => ⟨⟨rfl, goodL_pair l, by simp [pairV, dep, depL]⟩, z⟩⟩
theorem o_nmemQ {x : EV} {s : St} {l : List (Int × Int)} {q : Int × Int} {Φ : EV → St → Prop} {Ψ : XK} (hx : x.seq s = some (l.map pairV)) : W2 .nmem (.val (pairV q)) x s Φ Ψ = Φ (.val (.bl (!decide (q ∈ l)))) s := by
  have e : W2 .nmem (.val (pairV q)) x s Φ Ψ = W (.get (x.seq s) fun ys => .chk (good (pairV q) = true ∧ goodL ys = true ∧ dep (pairV q) ≤ 60) (.ok (.val (.bl (!ys.any fun z => veq z (pairV q)))) s)) Φ Ψ := rfl
  rw [e, hx]
  have ea : ((l.map pairV).any fun z => veq z (pairV q)) = decide (q ∈ l) := any_pair l q
  simp only [W_get, W_chk, kO_some, W_ok, ea]
  exact propext ⟨fun z => z.2, fun z => ⟨⟨rfl, goodL_pair l, by simp [pairV, dep, depL]⟩, z⟩⟩
theorem law_fits_spec (hP : P "_law_fits" = some IX.b_law_fits) {rs : List Row} (an : RAny rs) {a i : Nat} (hi : i < rs.length) (hp : h.c a = some (.lst (rs.map Row.v)))
    (h1 : Fit rs i → Φ (.bl true) h) (h2 : ¬ Fit rs i → Φ (.bl false) h) : WR P lim (k + 1) "_law_fits" [.ref a, .int (i : Int)] h Φ Ψ := by
  rw [r_enter hP rfl]
  unfold IX.b_law_fits start
  simp only [List.map_cons, List.map_nil, List.cons_append, List.nil_append, Nat.reduceSub, List.replicate]
  have hl := an.l
  have er : rs[i]? = some rs[i] := List.getElem?_eq_getElem hi
  have ra := an.r _ (List.getElem_mem hi)
  have ral := ra.l
  have ra0 := ra.e0
  have ra1 := ra.e1
  have ha1 : (rs.map Row.v)[i]? = some (Row.v rs[i]) := by rw [List.getElem?_map, er]; rfl
  unfold Row.v at ha1
  fail "oo"
  · exact h2 fun F => by have := (F _ er).e1; omega
  · exact h2 fun F => by have := (F _ er).l; omega
  rotate_left
  · exact h2 fun F => by have := (F _ er).e0; omega
  clear ha1
  generalize hL : rs[i].2 = L at *
  obtain ⟨I, hI⟩ : ∃ I : Nat → St → Prop, ∀ j st, I j st ↔ ∃ x4 x5 x6, (∀ m q, m < j → L[m]? = some q → GoodQ rs i L m q) ∧ st = ⟨[some (.v (.ref a)), some (.v (.int (i : Int))), some (.v (.int rs[i].1)), some (.v (.lst (L.map pairV))), x4, x5, x6], h⟩ := ⟨_, fun _ _ => Iff.rfl⟩
  refine WF_inv I ((hI _ _).mpr ⟨_, _, _, fun m q hm => absurd hm (Nat.not_lt_zero m), rfl⟩) ?_ ?_
  · intro j x st hx hs
    obtain ⟨x4, x5, x6, gd, rfl⟩ := (hI _ _).mp hs
    obtain ⟨hj, rfl⟩ := rngL_some hx
    rw [Int.zero_add]
    have hj : j < L.length := by omega
    have e : L[j]? = some L[j] := List.getElem?_eq_getElem hj
    have pa := ra.q L[j] (by rw [hL]; exact List.mem_of_getElem? e)
    have FG : Fit rs i → GoodQ rs i L j L[j] := fun F => by
      have := (F _ er).q j L[j] (by rw [hL]; exact e)
      rw [hL] at this
      exact this
    have ha1 : (L.map pairV)[j]? = some (pairV L[j]) := by rw [List.getElem?_map, e]; rfl
    generalize hu : L[j] = u at *
    obtain ⟨u, w⟩ := u
    obtain ⟨pa0, pa1, pb0, pb1⟩ := pa
    simp only at pa0 pa1 pb0 pb1
    have hpv : pairV (u, w) = .tup [.int u, .int w] := rfl
    clear ha1
    fail "oo"
    rw [hpv]
    fail "oo"
    · exact h2 fun F => (FG F).ne (by assumption)
    · exact h2 fun F => by have := (FG F).c1; simp only at this; omega
    · rw [o_memQ (l := L.take j) rfl]
      obtain ⟨c, rfl⟩ := Int.eq_ofNat_of_zero_le (show 0 ≤ u by assumption)
      have hc : c < rs.length := by omega
      have ec : rs[((c : Int), w).1.toNat]? = some rs[c] := by rw [Int.toNat_natCast]; exact List.getElem?_eq_getElem hc
      have rc := an.r _ (List.getElem_mem hc)
      have rc0 := rc.e0
      have rc1 := rc.e1
      have ha1 : (rs.map Row.v)[c]? = some (Row.v rs[c]) := by rw [List.getElem?_map, List.getElem?_eq_getElem hc]; rfl
      unfold Row.v at ha1
      fail "oo"
      · exact h2 fun F => (FG F).nm hq
      · exact h2 fun F => by
          have := (FG F).p1 _ ec
          simp only at this
          omega
      · refine (hI _ _).mpr ⟨_, _, _, fun m q hm hq2 => ?_, rfl⟩
        rcases Nat.lt_succ_iff_lt_or_eq.mp hm with hm | rfl
        · exact gd m q hm hq2
        · rw [e] at hq2
          cases hq2
          refine ⟨by simp only; omega, by simp only; omega, by simp only; omega, by assumption, by assumption, fun r hr => ?_⟩
          rw [ec] at hr
          cases hr
          assumption
      · exact h2 fun F => by have := (FG F).p0; simp only at this; omega
    · exact h2 fun F => by have := (FG F).c0; simp only at this; omega
  · intro st hs
    obtain ⟨x4, x5, x6, gd, rfl⟩ := (hI _ _).mp hs
    fail "oo"
    refine h1 fun r e => ?_
    rw [er] at e
    cases e
    refine ⟨by omega, by omega, by rw [hL]; omega, fun m q hq => ?_⟩
    rw [hL] at hq ⊢
    refine gd m q ?_ hq
    rw [rngL_len]
    have := (List.getElem?_eq_some_iff.mp hq).1
    omega
theorem law_bad_spec (hP : P "_law_bad" = some IX.b_law_bad) (hF : P "_law_fits" = some IX.b_law_fits) {rs : List Row} (an : RAny rs) {a : Nat} (hp : h.c a = some (.lst (rs.map Row.v)))
    (h1 : Good rs → Φ .non h) (h2 : ∀ b, Bad rs b → Φ (.int (b : Int)) h) : WR P lim (k + 2) "_law_bad" [.ref a] h Φ Ψ := by
  rw [r_enter hP rfl]
  unfold IX.b_law_bad start
  simp only [List.map_cons, List.map_nil, List.cons_append, List.nil_append, Nat.reduceSub, List.replicate]
  have hl := an.l
  fail "oo"
  · exact h2 8 (.inl ⟨by omega, rfl⟩)
  obtain ⟨I, hI⟩ : ∃ I : Nat → St → Prop, ∀ j st, I j st ↔ ∃ x1, (∀ m, m < j → Fit rs m) ∧ st = ⟨[some (.v (.ref a)), x1], h⟩ := ⟨_, fun _ _ => Iff.rfl⟩
  refine WF_inv I ((hI _ _).mpr ⟨_, fun m hm => absurd hm (Nat.not_lt_zero m), rfl⟩) ?_ ?_
  · intro j x st hx hs
    obtain ⟨x1, fit, rfl⟩ := (hI _ _).mp hs
    obtain ⟨hj, rfl⟩ := rngL_some hx
    have hj2 : j < rs.length := by omega
    rw [Int.zero_add]
    fail "oo"
    refine law_fits_spec hF an hj2 hp (fun F => ?_) (fun F => ?_)
    · fail "oo"
      exact (hI _ _).mpr ⟨_, fun m hm => (Nat.lt_succ_iff_lt_or_eq.mp hm).elim (fit m) (fun e => by rw [e]; exact F), rfl⟩
    · fail "oo"
      exact h2 j (.inr (.inl ⟨by omega, hj2, F, fit⟩))
  · intro st hs
    obtain ⟨x1, fit, rfl⟩ := (hI _ _).mp hs
    rw [rngL_len, Int.toNat_natCast] at fit
    fail "oo"
    · exact h2 0 (.inr (.inr ⟨by omega, rfl⟩))
    · exact h1 ⟨by omega, by omega, fit⟩
end
end IA

set_option Elab.async false
set_option linter.all false
set_option maxRecDepth 100000
/-! ## Components as data; the laws' draws of them (own text) -/
namespace IA
set_option hygiene false in
local macro_rules | `(tactic| fail "st") => `(tactic| first | simp only [hp, r_c, r_var, r_op, r_tup, r_ix, r_bi, r_call, t_op, t_call, t_and, b_nil, b_cons, v_nil, v_cons, g_name, s_nil, s_cons, x_asg, x_ret, x_ifs, o_addI, o_sub, o_lt, o_gt, o_eqI, if_f, tr_b, va_v, kp_v, bi_lenL, ix_t, ix_l, at_0, at_1, st_set, hp_set, fl_n, fl_r, ou_r, ca_G, re_t, u_kOp1, u_kOp2, u_kTup, u_kIx1, u_kBi, u_kB1, u_kB2, u_kV1, u_kV2, u_kV3, u_kNx, u_kAsg, u_kRt, u_kRetS, true_and, List.length_cons, List.length_nil, List.getElem?_cons_zero, List.getElem?_cons_succ, List.set_cons_zero, List.set_cons_succ, Nat.reduceAdd, szL, Nat.reduceLeDiff, List.nil_append, List.cons_append, Int.reduceToNat, List.length_map] | simp only [r_c, r_var, r_op, r_tup, r_ix, r_bi, r_call, t_op, t_call, t_and, b_nil, b_cons, v_nil, v_cons, g_name, s_nil, s_cons, x_asg, x_ret, x_ifs, o_addI, o_sub, o_lt, o_gt, o_eqI, if_f, tr_b, va_v, kp_v, bi_lenL, ix_t, ix_l, at_0, at_1, st_set, hp_set, fl_n, fl_r, ou_r, ca_G, re_t, u_kOp1, u_kOp2, u_kTup, u_kIx1, u_kBi, u_kB1, u_kB2, u_kV1, u_kV2, u_kV3, u_kNx, u_kAsg, u_kRt, u_kRetS, true_and, List.length_cons, List.length_nil, List.getElem?_cons_zero, List.getElem?_cons_succ, List.set_cons_zero, List.set_cons_succ, Nat.reduceAdd, szL, Nat.reduceLeDiff, List.nil_append, List.cons_append, Int.reduceToNat, List.length_map])
set_option hygiene false in
local macro_rules | `(tactic| fail "qs") => `(tactic| first
  | with_reducible refine if_s (fun hq => ?_) (fun hq => ?_)
  | with_reducible refine at_s (fun hq => ?_) (fun hq => ?_)
  | with_reducible refine ot_s (fun hq => ?_) (fun hq => ?_)
  | with_reducible refine it_s (fun hq => ?_) (fun hq => ?_)
  | with_reducible refine ad_s (fun hq => ?_) (fun hq => ?_)
  | with_reducible refine or_s (fun hq => ?_) (fun hq => ?_)
  | with_reducible refine ch_s (fun hq => ?_) (fun hq => ?_)
  | with_reducible refine c1_s (fun hq => ?_) (fun hq => ?_))
local macro_rules | `(tactic| fail "sd") => `(tactic| first
  | assumption
  | omega
  | exact smR (by omega) (by omega)
  | exact bdI (by omega) (by omega)
  | exact And.intro (bdI (by omega) (by omega)) (bdI (by omega) (by omega))
  | exact smL (by omega) (by omega)
  | decide)
set_option hygiene false in
local macro_rules | `(tactic| fail "g1") => `(tactic| first
  | fail "st"
  | (fail "qs" <;> (try simp only [decide_eq_true_eq, decide_eq_false_iff_not, Bool.not_eq_true', Bool.not_eq_false', beq_iff_eq, bne_iff_ne, ne_eq, Int.not_le, Int.not_lt] at hq))
  | ((with_reducible apply And.intro); (case left => fail "sd"))
  | fail "none")
set_option hygiene false in
local macro_rules | `(tactic| fail "go") => `(tactic| repeat' fail "g1")
set_option hygiene false in
local macro_rules | `(tactic| fail "ha") => `(tactic| first
  | assumption
  | exact HasA.set (by assumption)
  | fail "none")
set_option hygiene false in
local macro_rules | `(tactic| fail "dr") => `(tactic| first
  | (with_reducible refine draw_A hD (by fail "ha") (by omega) (by omega) ?_; intro v c hc hv0 hv1)
  | (with_reducible refine spend_A hS (by fail "ha") ?_; intro b c hc)
  | (with_reducible refine number_A hD hN (by fail "ha") ?_; intro v c hc hv0 hv1)
  | (with_reducible refine few_A hD hF (by fail "ha") (by omega) (by omega) ?_; intro v c hc hv0 hv1)
  | fail "none")
set_option hygiene false in
local macro_rules | `(tactic| fail "gd") => `(tactic| repeat' (first | fail "g1" | fail "dr" | fail "none"))

inductive Ex where
  | num (n : Int) | loc (n : Int) | get (b : Int) (i : Ex) | bin (s : String) (a b : Ex)
  deriving DecidableEq
def Ex.v : Ex → Val
  | .num n => .tup [.str "number", .int n]
  | .loc n => .tup [.str "local", .int n]
  | .get b i => .tup [.str "get", .int b, i.v]
  | .bin s a b => .tup [.str s, a.v, b.v]
def signs : List String := ["+", "-", "*", "/", "mod", "<", "="]
/-- what a part may name: locals, sizes of buffers, procedures, imports -/
structure Shape where
  cells : Int
  sizes : List Int
  count : Int
  imports : Int
def Shape.v (s : Shape) : Val := .lst [.int s.cells, .lst (s.sizes.map .int), .int s.count, .int s.imports]
/-- at most d deep, and only what there is -/
def Ex.ok (s : Shape) : Nat → Ex → Prop
  | _, .num n => 0 ≤ n ∧ n < 65536
  | _, .loc n => 0 ≤ n ∧ n < s.cells
  | d + 1, .get b i => 1 ≤ d ∧ 0 ≤ b ∧ b < s.sizes.length ∧ Ex.ok s d i
  | d + 1, .bin g a b => 1 ≤ d ∧ g ∈ signs ∧ Ex.ok s d a ∧ Ex.ok s d b
  | 0, .get _ _ => False
  | 0, .bin _ _ _ => False
theorem Ex.ok.up {s : Shape} : ∀ {x : Ex} {d e : Nat}, x.ok s d → d ≤ e → x.ok s e
  | .num n, _, _, h, _ => by simpa only [Ex.ok] using h
  | .loc n, _, _, h, _ => by simpa only [Ex.ok] using h
  | .get b i, d + 1, e + 1, h, l => by
    simp only [Ex.ok] at h ⊢
    exact ⟨by omega, h.2.1, h.2.2.1, Ex.ok.up h.2.2.2 (by omega)⟩
  | .bin g a b, d + 1, e + 1, h, l => by
    simp only [Ex.ok] at h ⊢
    exact ⟨by omega, h.2.1, Ex.ok.up h.2.2.1 (by omega), Ex.ok.up h.2.2.2 (by omega)⟩
  | .get b i, 0, _, h, _ => by simp only [Ex.ok] at h
  | .bin g a b, 0, _, h, _ => by simp only [Ex.ok] at h
  | .get b i, d + 1, 0, _, l => by omega
  | .bin g a b, d + 1, 0, _, l => by omega
section
variable {P : Prog} {lim k : Nat} {h : AHeap} {p : Nat} {ns : List Int} {n : Int} {Φ : Val → AHeap → Prop} {Ψ : String → Val → AHeap → Prop}
end
end IA

set_option Elab.async false
set_option linter.all false
set_option maxRecDepth 100000
set_option maxHeartbeats 4000000
/-! ## Comprehensions of draws (own text) -/
namespace IA
set_option hygiene false in
local macro_rules | `(tactic| fail "st") => `(tactic| first | simp only [hp, r_c, v_nil, v_cons, o_addI, kp_v, kp_n, hp_set, ca_G, re_t, co_x, u_kOp2, u_kV1, u_kV2, u_kV3, kRng, u_kJ2, u_kJ3, wipe, List.length_cons, List.length_nil, List.getElem?_cons_zero, Nat.reduceAdd, szL, Nat.reduceLeDiff, if_pos, Int.reduceToNat, List.length_set, List.length_map] | simp only [r_c, v_nil, v_cons, o_addI, kp_v, kp_n, hp_set, ca_G, re_t, co_x, u_kOp2, u_kV1, u_kV2, u_kV3, kRng, u_kJ2, u_kJ3, wipe, List.length_cons, List.length_nil, List.getElem?_cons_zero, Nat.reduceAdd, szL, Nat.reduceLeDiff, if_pos, Int.reduceToNat, List.length_set, List.length_map])
set_option hygiene false in
local macro_rules | `(tactic| fail "qs") => `(tactic| first
  | with_reducible refine if_s (fun hq => ?_) (fun hq => ?_)
  | with_reducible refine at_s (fun hq => ?_) (fun hq => ?_)
  | with_reducible refine ot_s (fun hq => ?_) (fun hq => ?_)
  | with_reducible refine it_s (fun hq => ?_) (fun hq => ?_)
  | with_reducible refine ad_s (fun hq => ?_) (fun hq => ?_)
  | with_reducible refine or_s (fun hq => ?_) (fun hq => ?_)
  | with_reducible refine ch_s (fun hq => ?_) (fun hq => ?_)
  | with_reducible refine c1_s (fun hq => ?_) (fun hq => ?_))
local macro_rules | `(tactic| fail "sd") => `(tactic| first
  | assumption
  | omega
  | exact smR (by omega) (by omega)
  | exact bdI (by omega) (by omega)
  | exact And.intro (bdI (by omega) (by omega)) (bdI (by omega) (by omega))
  | exact smL (by omega) (by omega)
  | decide)
set_option hygiene false in
local macro_rules | `(tactic| fail "g1") => `(tactic| first
  | fail "st"
  | (fail "qs" <;> (try simp only [decide_eq_true_eq, decide_eq_false_iff_not, Bool.not_eq_true', Bool.not_eq_false', beq_iff_eq, bne_iff_ne, ne_eq, Int.not_le, Int.not_lt] at hq))
  | ((with_reducible apply And.intro); (case left => fail "sd"))
  | fail "none")
set_option hygiene false in
local macro_rules | `(tactic| fail "go") => `(tactic| repeat' fail "g1")
set_option hygiene false in
local macro_rules | `(tactic| fail "ha") => `(tactic| first
  | assumption
  | exact HasA.set (by assumption)
  | fail "none")
set_option hygiene false in
local macro_rules | `(tactic| fail "dr") => `(tactic| first
  | (with_reducible refine draw_A hD (by fail "ha") (by omega) (by omega) ?_; intro v c hc hv0 hv1)
  | (with_reducible refine spend_A hS (by fail "ha") ?_; intro b c hc)
  | (with_reducible refine number_A hD hN (by fail "ha") ?_; intro v c hc hv0 hv1)
  | (with_reducible refine few_A hD hF (by fail "ha") (by omega) (by omega) ?_; intro v c hc hv0 hv1)
  | fail "none")
set_option hygiene false in
local macro_rules | `(tactic| fail "gd") => `(tactic| repeat' (first | fail "g1" | fail "dr" | fail "none"))

set_option hygiene false in
local macro_rules | `(tactic| fail "ob") => `(tactic| simp only [Option.map_some, List.map_append, List.map_cons, List.map_nil, String.reduceEq, reduceIte, List.mem_cons, List.not_mem_nil, or_false, List.length_cons, List.length_nil, Nat.reduceAdd, Nat.reduceLT, eq_self])
set_option hygiene false in
local macro_rules | `(tactic| fail "ma") => `(tactic| first | (rw [at_e ha1]) | (rw [at_e ha2]) | (rw [at_e ha3]) | (rw [at_e ha4]) | (rw [ati_e ha1]) | (rw [ati_e ha2]) | (rw [ati_e ha3]) | (rw [ati_e ha4]) | (rw [at_n (by (first | omega | (rw [List.length_map]; omega)))]; try rw [List.getElem_map]) | (rw [ix_nat (by (first | omega | (simp only [List.length_map]; omega)))]))
local macro_rules | `(tactic| fail "sx") => `(tactic| first | omega | (simp only []; omega))
local macro_rules | `(tactic| fail "rd") => `(tactic| repeat' (first | rw [hp_get] | (rw [hs_ne (by fail "sx")]) | (rw [hn_get2 (by first | rfl | fail "sx")]) | (rw [hn_ne (by fail "sx")]) | rw [hb_c]))
set_option hygiene false in
local macro_rules | `(tactic| fail "oo") => `(tactic| repeat' (first | fail "st" | simp only [hx] | simp only [hy] | simp only [hz] | simp only [hu] | simp only [hv] | simp only [hw] | fail "ob" | (with_reducible refine hw1 _ _ _ ?_) | (with_reducible refine hw2 _ _ _ ?_) | (with_reducible refine hw3 _ _ _ ?_)  | (rw [hs_ne (by omega)]) | (rw [hn_ne (by (first | omega | (simp only []; omega)))]) | fail "ma" | fail "dr" | fail "g1" | fail "none"))
set_option hygiene false in
local macro_rules | `(tactic| fail "on") => `(tactic| repeat' (first | fail "st" | simp only [hx] | simp only [hy] | simp only [hz] | simp only [hu] | simp only [hv] | simp only [hw] | fail "ob" | (with_reducible refine hw1 _ _ _ ?_) | (with_reducible refine hw2 _ _ _ ?_) | (with_reducible refine hw3 _ _ _ ?_)  | (rw [hs_ne (by omega)]) | (rw [hn_ne (by (first | omega | (simp only []; omega)))]) | fail "ma" | fail "dr" | ((with_reducible apply And.intro); (case left => fail "sd")) | fail "none"))

section
variable {P : Prog} {lim k : Nat} {h : AHeap} {p : Nat} {ns : List Int} {σ : List (Option SV)} {a j : Nat} {Φ : EV → St → Prop}
end
end IA

set_option Elab.async false
set_option linter.all false
set_option maxRecDepth 100000
set_option maxHeartbeats 4000000
/-! ## Values and bounds of expressions (own text) -/
namespace IA
set_option hygiene false in
local macro_rules | `(tactic| fail "st") => `(tactic| first | simp only [hp, r_c, r_var, r_op, r_ite, r_ix, r_bi, r_call, t_op, t_or, b_nil, b_cons, v_nil, v_cons, g_name, s_nil, s_cons, x_asg, x_ret, x_ifs, o_addI, o_sub, o_mul, o_fdiv, o_mod, o_lt, o_gt, o_eqI, o_eqS, if_t, if_f, it_t, it_f, ot_t, ot_f, tr_b, va_v, kp_v, bi_intB, bi_min2, bi_max2, ix_t, at_0, at_1, at_2, st_set, fl_n, fl_r, ou_r, ca_G, re_t, u_kOp1, u_kOp2, u_kIx1, u_kBi, u_kB1, u_kB2, u_kV1, u_kV2, u_kV3, u_kNx, u_kAsg, u_kRt, u_kRetS, List.getElem?_cons_zero, List.getElem?_cons_succ, List.set_cons_zero, List.set_cons_succ, Nat.reduceAdd, Nat.reduceLeDiff, List.nil_append, List.cons_append, decide_true, decide_false, Bool.not_true, Bool.not_false, if_pos, Int.reduceToNat] | simp only [r_c, r_var, r_op, r_ite, r_ix, r_bi, r_call, t_op, t_or, b_nil, b_cons, v_nil, v_cons, g_name, s_nil, s_cons, x_asg, x_ret, x_ifs, o_addI, o_sub, o_mul, o_fdiv, o_mod, o_lt, o_gt, o_eqI, o_eqS, if_t, if_f, it_t, it_f, ot_t, ot_f, tr_b, va_v, kp_v, bi_intB, bi_min2, bi_max2, ix_t, at_0, at_1, at_2, st_set, fl_n, fl_r, ou_r, ca_G, re_t, u_kOp1, u_kOp2, u_kIx1, u_kBi, u_kB1, u_kB2, u_kV1, u_kV2, u_kV3, u_kNx, u_kAsg, u_kRt, u_kRetS, List.getElem?_cons_zero, List.getElem?_cons_succ, List.set_cons_zero, List.set_cons_succ, Nat.reduceAdd, Nat.reduceLeDiff, List.nil_append, List.cons_append, decide_true, decide_false, Bool.not_true, Bool.not_false, if_pos, Int.reduceToNat])
set_option hygiene false in
local macro_rules | `(tactic| fail "qs") => `(tactic| first
  | with_reducible refine if_s (fun hq => ?_) (fun hq => ?_)
  | with_reducible refine at_s (fun hq => ?_) (fun hq => ?_)
  | with_reducible refine ot_s (fun hq => ?_) (fun hq => ?_)
  | with_reducible refine it_s (fun hq => ?_) (fun hq => ?_)
  | with_reducible refine ad_s (fun hq => ?_) (fun hq => ?_)
  | with_reducible refine or_s (fun hq => ?_) (fun hq => ?_)
  | with_reducible refine ch_s (fun hq => ?_) (fun hq => ?_)
  | with_reducible refine c1_s (fun hq => ?_) (fun hq => ?_))
local macro_rules | `(tactic| fail "sd") => `(tactic| first
  | assumption
  | omega
  | exact smR (by omega) (by omega)
  | exact bdI (by omega) (by omega)
  | exact And.intro (bdI (by omega) (by omega)) (bdI (by omega) (by omega))
  | exact smL (by omega) (by omega)
  | decide)
set_option hygiene false in
local macro_rules | `(tactic| fail "g1") => `(tactic| first
  | fail "st"
  | (fail "qs" <;> (try simp only [decide_eq_true_eq, decide_eq_false_iff_not, Bool.not_eq_true', Bool.not_eq_false', beq_iff_eq, bne_iff_ne, ne_eq, Int.not_le, Int.not_lt] at hq))
  | ((with_reducible apply And.intro); (case left => fail "sd"))
  | fail "none")
set_option hygiene false in
local macro_rules | `(tactic| fail "go") => `(tactic| repeat' fail "g1")
set_option hygiene false in
local macro_rules | `(tactic| fail "ha") => `(tactic| first
  | assumption
  | exact HasA.set (by assumption)
  | fail "none")
set_option hygiene false in
local macro_rules | `(tactic| fail "dr") => `(tactic| first
  | (with_reducible refine draw_A hD (by fail "ha") (by omega) (by omega) ?_; intro v c hc hv0 hv1)
  | (with_reducible refine spend_A hS (by fail "ha") ?_; intro b c hc)
  | (with_reducible refine number_A hD hN (by fail "ha") ?_; intro v c hc hv0 hv1)
  | (with_reducible refine few_A hD hF (by fail "ha") (by omega) (by omega) ?_; intro v c hc hv0 hv1)
  | fail "none")
set_option hygiene false in
local macro_rules | `(tactic| fail "gd") => `(tactic| repeat' (first | fail "g1" | fail "dr" | fail "none"))

set_option hygiene false in
local macro_rules | `(tactic| fail "ob") => `(tactic| simp only [List.map_cons, List.map_nil, o_nmemG, String.reduceEq, reduceIte, List.mem_cons, List.not_mem_nil, or_false, or_true, Nat.reduceAdd, Nat.reduceLT, eq_self, decide_true])
set_option hygiene false in
local macro_rules | `(tactic| fail "ma") => `(tactic| first | (rw [at_e ha1]) | (rw [at_e ha2]) | (rw [at_e ha3]) | (rw [at_e ha4]) | (rw [ati_e ha1]) | (rw [ati_e ha2]) | (rw [ati_e ha3]) | (rw [ati_e ha4]) | (rw [at_n (by (first | omega | (rw [List.length_map]; omega)))]; try rw [List.getElem_map]) | (rw [ix_nat (by (first | omega | (simp only []; omega)))]))
local macro_rules | `(tactic| fail "sx") => `(tactic| first | omega | (simp only []; omega))
local macro_rules | `(tactic| fail "rd") => `(tactic| repeat' (first | rw [hp_get] | (rw [hs_ne (by fail "sx")]) | (rw [hn_get2 (by first | rfl | fail "sx")]) | (rw [hn_ne (by fail "sx")]) | rw [hb_c]))
set_option hygiene false in
local macro_rules | `(tactic| fail "oo") => `(tactic| repeat' (first | fail "st" | simp only [hx] | simp only [hy] | simp only [hz] | simp only [hu] | simp only [hv] | simp only [hw] | fail "ob" | (with_reducible refine hw1 _ _ _ ?_) | (with_reducible refine hw2 _ _ _ ?_) | (with_reducible refine hw3 _ _ _ ?_)  | (rw [hs_ne (by omega)]) | (rw [hn_ne (by (first | omega | (simp only []; omega)))]) | fail "ma" | fail "dr" | fail "g1" | fail "none"))
set_option hygiene false in
local macro_rules | `(tactic| fail "on") => `(tactic| repeat' (first | fail "st" | simp only [hx] | simp only [hy] | simp only [hz] | simp only [hu] | simp only [hv] | simp only [hw] | fail "ob" | (with_reducible refine hw1 _ _ _ ?_) | (with_reducible refine hw2 _ _ _ ?_) | (with_reducible refine hw3 _ _ _ ?_)  | (rw [hs_ne (by omega)]) | (rw [hn_ne (by (first | omega | (simp only []; omega)))]) | fail "ma" | fail "dr" | ((with_reducible apply And.intro); (case left => fail "sd")) | fail "none"))

def comb (g : String) (x y : Int) : Int :=
  if g = "+" then (x + y) % 65536 else if g = "-" then (x - y) % 65536 else if g = "*" then x * y % 65536
  else if g = "/" then (if 0 < y then x / y else 0) else if g = "mod" then (if 0 < y then x % y else 0)
  else if g = "<" then b2i (decide (x < y)) else b2i (decide (x = y))
theorem sign_cases {g : String} (h : g ∈ signs) : g = "+" ∨ g = "-" ∨ g = "*" ∨ g = "/" ∨ g = "mod" ∨ g = "<" ∨ g = "=" := by
  simpa only [signs, List.mem_cons, List.not_mem_nil, or_false] using h
/-- the value of an expression: locals, words of the buffers -/
def Ex.val (xs : List Int) (bw : List (List Int)) : Ex → Option Int
  | .num n => some n
  | .loc n => xs[n.toNat]?
  | .get b i => (i.val xs bw).bind fun a => (bw[b.toNat]?).bind fun w => w[a.toNat]?
  | .bin g a b => (a.val xs bw).bind fun x => (b.val xs bw).bind fun y => some (comb g x y)
section
variable {P : Prog} {lim k : Nat} {h : AHeap} {p : Nat} {ns : List Int} {n : Int} {Φ : Val → AHeap → Prop} {Ψ : String → Val → AHeap → Prop}
end
end IA

set_option Elab.async false
set_option linter.all false
set_option maxRecDepth 100000
set_option maxHeartbeats 4000000
/-! ## Simpler expressions (own text) -/
namespace IA
set_option hygiene false in
local macro_rules | `(tactic| fail "st") => `(tactic| first | simp only [hp, true_and, and_true, List.length_cons, List.length_nil, Nat.reduceAdd, Nat.reduceLeDiff, decide_true, decide_false, if_pos, Int.reduceToNat] | simp only [true_and, and_true, List.length_cons, List.length_nil, Nat.reduceAdd, Nat.reduceLeDiff, decide_true, decide_false, if_pos, Int.reduceToNat])
set_option hygiene false in
local macro_rules | `(tactic| fail "qs") => `(tactic| first
  | with_reducible refine if_s (fun hq => ?_) (fun hq => ?_)
  | with_reducible refine at_s (fun hq => ?_) (fun hq => ?_)
  | with_reducible refine ot_s (fun hq => ?_) (fun hq => ?_)
  | with_reducible refine it_s (fun hq => ?_) (fun hq => ?_)
  | with_reducible refine ad_s (fun hq => ?_) (fun hq => ?_)
  | with_reducible refine or_s (fun hq => ?_) (fun hq => ?_)
  | with_reducible refine ch_s (fun hq => ?_) (fun hq => ?_)
  | with_reducible refine c1_s (fun hq => ?_) (fun hq => ?_))
local macro_rules | `(tactic| fail "sd") => `(tactic| first
  | assumption
  | omega
  | exact smR (by omega) (by omega)
  | exact bdI (by omega) (by omega)
  | exact And.intro (bdI (by omega) (by omega)) (bdI (by omega) (by omega))
  | exact smL (by omega) (by omega)
  | decide)
set_option hygiene false in
local macro_rules | `(tactic| fail "g1") => `(tactic| first
  | fail "st"
  | (fail "qs" <;> (try simp only [decide_eq_true_eq, decide_eq_false_iff_not, Bool.not_eq_true', Bool.not_eq_false', beq_iff_eq, bne_iff_ne, ne_eq, Int.not_le, Int.not_lt] at hq))
  | ((with_reducible apply And.intro); (case left => fail "sd"))
  | fail "none")
set_option hygiene false in
local macro_rules | `(tactic| fail "go") => `(tactic| repeat' fail "g1")
set_option hygiene false in
local macro_rules | `(tactic| fail "ha") => `(tactic| first
  | assumption
  | exact HasA.set (by assumption)
  | fail "none")
set_option hygiene false in
local macro_rules | `(tactic| fail "dr") => `(tactic| first
  | (with_reducible refine draw_A hD (by fail "ha") (by omega) (by omega) ?_; intro v c hc hv0 hv1)
  | (with_reducible refine spend_A hS (by fail "ha") ?_; intro b c hc)
  | (with_reducible refine number_A hD hN (by fail "ha") ?_; intro v c hc hv0 hv1)
  | (with_reducible refine few_A hD hF (by fail "ha") (by omega) (by omega) ?_; intro v c hc hv0 hv1)
  | fail "none")
set_option hygiene false in
local macro_rules | `(tactic| fail "gd") => `(tactic| repeat' (first | fail "g1" | fail "dr" | fail "none"))

set_option hygiene false in
local macro_rules | `(tactic| fail "ob") => `(tactic| simp only [Row.v, String.reduceEq, reduceIte, true_and, and_true, List.length_cons, List.length_nil, Nat.reduceAdd, Nat.reduceLT, eq_self, decide_true, Bool.true_and])
set_option hygiene false in
local macro_rules | `(tactic| fail "ma") => `(tactic| first | (rw [at_e ha1]) | (rw [at_e ha2]) | (rw [at_e ha3]) | (rw [at_e ha4]) | (rw [ati_e ha1]) | (rw [ati_e ha2]) | (rw [ati_e ha3]) | (rw [ati_e ha4]) | (rw [at_n (by (first | omega | (rw [List.length_map]; omega)))]; try rw [List.getElem_map]) | (rw [ix_nat (by (first | omega | (simp only []; omega)))]))
local macro_rules | `(tactic| fail "sx") => `(tactic| first | omega | (simp only []; omega))
local macro_rules | `(tactic| fail "rd") => `(tactic| repeat' (first | rw [hp_get] | (rw [hs_ne (by fail "sx")]) | (rw [hn_get2 (by first | rfl | fail "sx")]) | (rw [hn_ne (by fail "sx")]) | rw [hb_c]))
set_option hygiene false in
local macro_rules | `(tactic| fail "oo") => `(tactic| repeat' (first | fail "st" | simp only [hx] | simp only [hy] | simp only [hz] | simp only [hu] | simp only [hv] | simp only [hw] | fail "ob" | (with_reducible refine hw1 _ _ _ ?_) | (with_reducible refine hw2 _ _ _ ?_) | (with_reducible refine hw3 _ _ _ ?_)  | (rw [hs_ne (by omega)]) | (rw [hn_ne (by (first | omega | (simp only []; omega)))]) | fail "ma" | fail "dr" | fail "g1" | fail "none"))
set_option hygiene false in
local macro_rules | `(tactic| fail "on") => `(tactic| repeat' (first | fail "st" | simp only [hx] | simp only [hy] | simp only [hz] | simp only [hu] | simp only [hv] | simp only [hw] | fail "ob" | (with_reducible refine hw1 _ _ _ ?_) | (with_reducible refine hw2 _ _ _ ?_) | (with_reducible refine hw3 _ _ _ ?_)  | (rw [hs_ne (by omega)]) | (rw [hn_ne (by (first | omega | (simp only []; omega)))]) | fail "ma" | fail "dr" | ((with_reducible apply And.intro); (case left => fail "sd")) | fail "none"))

section
variable {Γ : Env} {Ψ : XK} {ΦT : Bool → St → Prop} {b : E} {s : St} {p k : Bool}
end
def rule (ok : Ex → Bool) (g : String) (x y : Ex) : Ex :=
  match x, y with
  | .num m, .num n => .num (comb g m n)
  | x, y =>
    if y = .num 0 ∧ (g = "+" ∨ g = "-") then x
    else if x = .num 0 ∧ g = "+" then y
    else if y = .num 1 ∧ (g = "*" ∨ g = "/") then x
    else if x = .num 1 ∧ g = "*" then y
    else if g = "*" ∧ (x = .num 0 ∨ y = .num 0) ∧ ok x = true ∧ ok y = true then .num 0
    else if x = y ∧ (g = "-" ∨ g = "=" ∨ g = "<" ∨ g = "mod") ∧ ok x = true then .num (b2i (decide (g = "=")))
    else .bin g x y
def Ex.fold (ok : Ex → Bool) : Ex → Ex
  | .num n => .num n
  | .loc n => .loc n
  | .get b i => .get b (i.fold ok)
  | .bin g a b => rule ok g (a.fold ok) (b.fold ok)
def Ex.hd : Ex → String
  | .num _ => "number"
  | .loc _ => "local"
  | .get _ _ => "get"
  | .bin g _ _ => g
theorem Ex.dep_ok {s : Shape} : ∀ {e : Ex} {d : Nat}, e.ok s d → dep e.v ≤ d + 1
  | .num n, d, _ => by simp [Ex.v, dep, depL]
  | .loc n, d, _ => by simp [Ex.v, dep, depL]
  | .get b i, 0, h => by simp only [Ex.ok] at h
  | .get b i, d + 1, h => by
    simp only [Ex.ok] at h
    have := Ex.dep_ok h.2.2.2
    simp only [Ex.v, dep, depL]
    omega
  | .bin g a b, 0, h => by simp only [Ex.ok] at h
  | .bin g a b, d + 1, h => by
    simp only [Ex.ok] at h
    have h1 := Ex.dep_ok h.2.2.1
    have h2 := Ex.dep_ok h.2.2.2
    simp only [Ex.v, dep, depL]
    omega
theorem Ex.good_v : ∀ e : Ex, good e.v = true
  | .num n => rfl
  | .loc n => rfl
  | .get b i => by simp only [Ex.v, good, goodL, Ex.good_v i, Bool.and_self]
  | .bin g a b => by simp only [Ex.v, good, goodL, Ex.good_v a, Ex.good_v b, Bool.and_self]
theorem sign_ne {g : String} (hg : g ∈ signs) : ¬ g = "number" ∧ ¬ g = "local" ∧ ¬ g = "get" := by
  rcases sign_cases hg with rfl | rfl | rfl | rfl | rfl | rfl | rfl <;> decide
theorem Ex.bin_ok {s : Shape} {g : String} {a b : Ex} {d : Nat} (h : (Ex.bin g a b).ok s d) : g ∈ signs ∧ a.ok s (d - 1) ∧ b.ok s (d - 1) ∧ 1 ≤ d - 1 := by
  cases d with
  | zero => simp only [Ex.ok] at h
  | succ d => simp only [Ex.ok] at h; exact ⟨h.2.1, h.2.2.1, h.2.2.2, h.1⟩
theorem Ex.get_ok {s : Shape} {c : Int} {i : Ex} {d : Nat} (h : (Ex.get c i).ok s d) : 0 ≤ c ∧ c < s.sizes.length ∧ i.ok s (d - 1) ∧ 1 ≤ d - 1 := by
  cases d with
  | zero => simp only [Ex.ok] at h
  | succ d => simp only [Ex.ok] at h; exact ⟨h.2.1, h.2.2.1, h.2.2.2, h.1⟩
theorem Ex.veq {s : Shape} (x : Ex) : ∀ {y : Ex} {d e : Nat}, x.ok s d → y.ok s e → IA.veq x.v y.v = decide (x = y) := by
  induction x with
  | num m =>
    intro y d e hx hy
    cases y with
    | num n => simp [Ex.v, IA.veq, veqL]
    | loc n => simp [Ex.v, IA.veq, veqL]
    | get b i => simp only [Ex.v, IA.veq]; rw [veqL_len (by simp)]; simp
    | bin g a b => simp only [Ex.v, IA.veq]; rw [veqL_len (by simp)]; simp
  | loc m =>
    intro y d e hx hy
    cases y with
    | num n => simp [Ex.v, IA.veq, veqL]
    | loc n => simp [Ex.v, IA.veq, veqL]
    | get b i => simp only [Ex.v, IA.veq]; rw [veqL_len (by simp)]; simp
    | bin g a b => simp only [Ex.v, IA.veq]; rw [veqL_len (by simp)]; simp
  | get c j ih =>
    intro y d e hx hy
    cases y with
    | num n => simp only [Ex.v, IA.veq]; rw [veqL_len (by simp)]; simp
    | loc n => simp only [Ex.v, IA.veq]; rw [veqL_len (by simp)]; simp
    | get b i =>
      have := ih (Ex.get_ok hx).2.2.1 (Ex.get_ok hy).2.2.1
      have e0 : IA.veq (Ex.get c j).v (Ex.get b i).v = (decide ("get" = "get") && (decide (c = b) && (IA.veq j.v i.v && true))) := rfl
      rw [e0, this]
      simp
    | bin g a b =>
      have := sign_ne (Ex.bin_ok hy).1
      have h3 : ¬ "get" = g := fun z => this.2.2 z.symm
      have e0 : IA.veq (Ex.get c j).v (Ex.bin g a b).v = (decide ("get" = g) && veqL [.int c, j.v] [a.v, b.v]) := rfl
      rw [e0, decide_eq_false h3]
      simp
  | bin g a b iha ihb =>
    intro y d e hx hy
    cases y with
    | num n => simp only [Ex.v, IA.veq]; rw [veqL_len (by simp)]; simp
    | loc n => simp only [Ex.v, IA.veq]; rw [veqL_len (by simp)]; simp
    | get c i =>
      have := sign_ne (Ex.bin_ok hx).1
      have e0 : IA.veq (Ex.bin g a b).v (Ex.get c i).v = (decide (g = "get") && veqL [a.v, b.v] [.int c, i.v]) := rfl
      rw [e0, decide_eq_false this.2.2]
      simp
    | bin g' a' b' =>
      have e1 := iha (Ex.bin_ok hx).2.1 (Ex.bin_ok hy).2.1
      have e2 := ihb (Ex.bin_ok hx).2.2.1 (Ex.bin_ok hy).2.2.1
      have e0 : IA.veq (Ex.bin g a b).v (Ex.bin g' a' b').v = (decide (g = g') && (IA.veq a.v a'.v && (IA.veq b.v b'.v && true))) := rfl
      rw [e0, e1, e2]
      simp
theorem Ex.eqV {s : Shape} {x y : Ex} {d e : Nat} (hx : x.ok s d) (hy : y.ok s e) (hd : d ≤ 50) (he : e ≤ 50) : IA.eqV x.v y.v = some (decide (x = y)) := by
  have h1 := Ex.dep_ok hx
  have h2 := Ex.dep_ok hy
  have h3 := Ex.veq x hx hy
  have h4 := Ex.good_v x
  have h5 := Ex.good_v y
  have key : ∀ a b : List Val, good (.tup a) = true → good (.tup b) = true → dep (.tup a) ≤ 60 → dep (.tup b) ≤ 60 → IA.eqV (.tup a) (.tup b) = some (IA.veq (.tup a) (.tup b)) := fun a b g1 g2 g3 g4 => by
    show (if good (.tup a) && good (.tup b) && decide (dep (.tup a) ≤ 60) && decide (dep (.tup b) ≤ 60) then some (IA.veq (.tup a) (.tup b)) else none) = _
    rw [g1, g2, decide_eq_true g3, decide_eq_true g4]
    rfl
  have sh : ∀ e : Ex, ∃ l, e.v = .tup l := fun e => by cases e <;> exact ⟨_, rfl⟩
  obtain ⟨a, ea⟩ := sh x
  obtain ⟨b, eb⟩ := sh y
  rw [← h3]
  rw [ea] at h1 h4 ⊢
  rw [eb] at h2 h5 ⊢
  exact key a b h4 h5 (by omega) (by omega)
end IA

set_option Elab.async false
set_option linter.all false
set_option maxRecDepth 100000
set_option maxHeartbeats 4000000
/-! ## The value of an expression in a run (own text) -/
namespace IA
set_option hygiene false in
local macro_rules | `(tactic| fail "st") => `(tactic| first | simp only [hp, r_c, r_var, r_op, r_isn, r_neg, r_ix, r_fld, r_bi, r_call, r_meth, t_op, t_isn, t_or, b_nil, b_cons, v_nil, v_cons, g_name, g_fld, s_nil, s_cons, x_asg, x_ret, x_ex, x_ifs, o_ge, o_eqS, if_t, if_f, ot_t, ot_f, tr_b, in_n, in_i, va_v, kp_v, li_r, sc_l, bi_lenR, ix_t, ix_l, ix_r, at_0, at_1, at_2, st_set, hp_get, hp_set, fl_n, fl_r, ou_n, ou_r, ca_G, re_t, u_kOp1, u_kOp2, kNeg, u_kIx1, u_kFld, u_kBi, u_kVl, u_kB1, u_kB2, u_kV1, u_kV2, u_kV3, u_kFst1, u_kFst2, u_kNx, u_kAsg, u_kRt, u_kRetS, u_kEx, u_kLen, kMeth1, kO_some, true_and, and_true, List.length_cons, List.length_nil, List.getElem?_cons_zero, List.getElem?_cons_succ, List.set_cons_zero, List.set_cons_succ, Nat.reduceAdd, Nat.reduceLeDiff, List.nil_append, List.cons_append, decide_true, decide_false, Int.reduceToNat, List.length_map] | simp only [r_c, r_var, r_op, r_isn, r_neg, r_ix, r_fld, r_bi, r_call, r_meth, t_op, t_isn, t_or, b_nil, b_cons, v_nil, v_cons, g_name, g_fld, s_nil, s_cons, x_asg, x_ret, x_ex, x_ifs, o_ge, o_eqS, if_t, if_f, ot_t, ot_f, tr_b, in_n, in_i, va_v, kp_v, li_r, sc_l, bi_lenR, ix_t, ix_l, ix_r, at_0, at_1, at_2, st_set, hp_get, hp_set, fl_n, fl_r, ou_n, ou_r, ca_G, re_t, u_kOp1, u_kOp2, kNeg, u_kIx1, u_kFld, u_kBi, u_kVl, u_kB1, u_kB2, u_kV1, u_kV2, u_kV3, u_kFst1, u_kFst2, u_kNx, u_kAsg, u_kRt, u_kRetS, u_kEx, u_kLen, kMeth1, kO_some, true_and, and_true, List.length_cons, List.length_nil, List.getElem?_cons_zero, List.getElem?_cons_succ, List.set_cons_zero, List.set_cons_succ, Nat.reduceAdd, Nat.reduceLeDiff, List.nil_append, List.cons_append, decide_true, decide_false, Int.reduceToNat, List.length_map])
set_option hygiene false in
local macro_rules | `(tactic| fail "qs") => `(tactic| first
  | with_reducible refine if_s (fun hq => ?_) (fun hq => ?_)
  | with_reducible refine at_s (fun hq => ?_) (fun hq => ?_)
  | with_reducible refine ot_s (fun hq => ?_) (fun hq => ?_)
  | with_reducible refine it_s (fun hq => ?_) (fun hq => ?_)
  | with_reducible refine ad_s (fun hq => ?_) (fun hq => ?_)
  | with_reducible refine or_s (fun hq => ?_) (fun hq => ?_)
  | with_reducible refine ch_s (fun hq => ?_) (fun hq => ?_)
  | with_reducible refine c1_s (fun hq => ?_) (fun hq => ?_))
local macro_rules | `(tactic| fail "sd") => `(tactic| first
  | assumption
  | omega
  | exact smR (by omega) (by omega)
  | exact bdI (by omega) (by omega)
  | exact And.intro (bdI (by omega) (by omega)) (bdI (by omega) (by omega))
  | exact smL (by omega) (by omega)
  | decide)
set_option hygiene false in
local macro_rules | `(tactic| fail "g1") => `(tactic| first
  | fail "st"
  | (fail "qs" <;> (try simp only [decide_eq_true_eq, decide_eq_false_iff_not, Bool.not_eq_true', Bool.not_eq_false', beq_iff_eq, bne_iff_ne, ne_eq, Int.not_le, Int.not_lt] at hq))
  | ((with_reducible apply And.intro); (case left => fail "sd"))
  | fail "none")
set_option hygiene false in
local macro_rules | `(tactic| fail "go") => `(tactic| repeat' fail "g1")
set_option hygiene false in
local macro_rules | `(tactic| fail "ha") => `(tactic| first
  | assumption
  | exact HasA.set (by assumption)
  | fail "none")
set_option hygiene false in
local macro_rules | `(tactic| fail "dr") => `(tactic| first
  | (with_reducible refine draw_A hD (by fail "ha") (by omega) (by omega) ?_; intro v c hc hv0 hv1)
  | (with_reducible refine spend_A hS (by fail "ha") ?_; intro b c hc)
  | (with_reducible refine number_A hD hN (by fail "ha") ?_; intro v c hc hv0 hv1)
  | (with_reducible refine few_A hD hF (by fail "ha") (by omega) (by omega) ?_; intro v c hc hv0 hv1)
  | fail "none")
set_option hygiene false in
local macro_rules | `(tactic| fail "gd") => `(tactic| repeat' (first | fail "g1" | fail "dr" | fail "none"))

set_option hygiene false in
local macro_rules | `(tactic| fail "ob") => `(tactic| simp only [fd_r, cf_i, fs_r, cs_i, pf_n, pf_c, G_call, List.map_cons, List.map_nil, at_last, ic_c, ic_i, u_kMeth, String.reduceEq, reduceIte, List.mem_cons, List.not_mem_nil, or_false, true_and, and_true, kO_some, u_kVl, List.length_cons, List.length_nil, Nat.reduceAdd, Nat.reduceLT, eq_self, decide_true, Bool.true_and, look, Option.isNone_none])
set_option hygiene false in
local macro_rules | `(tactic| fail "ma") => `(tactic| first | (rw [at_e ha1]) | (rw [at_e ha2]) | (rw [at_e ha3]) | (rw [at_e ha4]) | (rw [ati_e ha1]) | (rw [ati_e ha2]) | (rw [ati_e ha3]) | (rw [ati_e ha4]) | (rw [at_n (by (first | omega | (rw [List.length_map]; omega)))]; try rw [List.getElem_map]) | (rw [ix_nat (by (first | omega | (simp only [List.length_map]; omega)))]))
local macro_rules | `(tactic| fail "sx") => `(tactic| first | omega | (simp only []; omega))
local macro_rules | `(tactic| fail "rd") => `(tactic| repeat' (first | rw [hp_get] | (rw [hs_ne (by fail "sx")]) | (rw [hn_get2 (by first | rfl | fail "sx")]) | (rw [hn_ne (by fail "sx")]) | rw [hb_c]))
set_option hygiene false in
local macro_rules | `(tactic| fail "oo") => `(tactic| repeat' (first | fail "st" | simp only [hx] | simp only [hy] | simp only [hz] | simp only [hu] | simp only [hv] | simp only [hw] | fail "ob" | (with_reducible refine hw1 _ _ _ ?_) | (with_reducible refine hw2 _ _ _ ?_) | (with_reducible refine hw3 _ _ _ ?_)  | (rw [hs_ne (by omega)]) | (rw [hn_ne (by (first | omega | (simp only []; omega)))]) | fail "ma" | fail "dr" | fail "g1" | fail "none"))
set_option hygiene false in
local macro_rules | `(tactic| fail "on") => `(tactic| repeat' (first | fail "st" | simp only [hx] | simp only [hy] | simp only [hz] | simp only [hu] | simp only [hv] | simp only [hw] | fail "ob" | (with_reducible refine hw1 _ _ _ ?_) | (with_reducible refine hw2 _ _ _ ?_) | (with_reducible refine hw3 _ _ _ ?_)  | (rw [hs_ne (by omega)]) | (rw [hn_ne (by (first | omega | (simp only []; omega)))]) | fail "ma" | fail "dr" | ((with_reducible apply And.intro); (case left => fail "sd")) | fail "none"))

structure PS where
  ifc : Val
  comps : List Val
  bufs : List (List Nat)
  used : Nat
  frames : Nat
  trace : Nat
  steps : Int
  state : String
  blamed : Val
def PS.f (p : PS) : List (String × Val) := [("interface", p.ifc), ("components", .lst p.comps), ("buffers", .lst (p.bufs.map fun l => .lst (l.map .ref))), ("used", .ref p.used), ("frames", .ref p.frames), ("trace", .ref p.trace), ("steps", .int p.steps), ("state", .str p.state), ("blamed", p.blamed)]
structure FS where
  comp : Nat
  size : Int
  cells : Nat
  rest : Val
  crossed : Bool
  waits : Int
def FS.f (f : FS) : List (String × Val) := [("component", .int (f.comp : Int)), ("size", .int f.size), ("cells", .ref f.cells), ("rest", f.rest), ("crossed", .bl f.crossed), ("waits", .int f.waits)]
def PS.blame (p : PS) (f : FS) : PS := { p with state := "undefined", blamed := .int (f.comp : Int) }
section
variable {h : AHeap} {q : Nat} {p : PS} {fs : List Val} {fr : Nat} {f : FS} {xs : List Int} {bl : List Nat} {bw : List (List Int)}
end
section
variable {P : Prog} {lim k : Nat} {h : AHeap} {q : Nat} {p : PS} {fs : List Val} {fr : Nat} {f : FS} {xs : List Int} {bl : List Nat} {bw : List (List Int)} {Φ : Val → AHeap → Prop} {Ψ : String → Val → AHeap → Prop}
end
end IA

set_option Elab.async false
set_option linter.all false
set_option maxRecDepth 100000
set_option maxHeartbeats 4000000
/-! ## Components; the beginning of a run (own text) -/
namespace IA
set_option hygiene false in
local macro_rules | `(tactic| fail "st") => `(tactic| first | simp only [hp, r_c, r_var, r_tup, r_lst, r_fld, r_bi, r_meth, r_heap, t_c, b_nil, b_cons, v_nil, v_cons, i_seq, i_rev, g_name, g_fld, s_nil, s_cons, x_asg, x_ret, x_ex, x_for, r_comp, tr_b, va_v, kp_v, kp_n, se_t, se_l, se_n, bi_list, bi_tuple, st_set, sq_t, sq_l, hp_get, hp_set, fl_n, fl_r, ou_n, ou_r, re_t, fo_x, co_x, ki_n, kj_t, u_kTup, u_kLst, u_kFld, u_kBi, u_kVl, u_kB1, u_kB2, u_kV1, u_kV2, u_kV3, kRevI, u_kFst1, u_kFst2, u_kNx, u_kAsg, u_kRt, u_kRetS, u_kEx, u_kI1, u_kJ0, u_kJ2, u_kJ3, u_kNw, u_kTp, kMeth1, kHeap, u_kExc, u_kOutX, wipe, kO_some, true_and, and_true, List.length_cons, List.length_nil, List.getElem?_cons_zero, List.getElem?_cons_succ, List.set_cons_zero, List.set_cons_succ, Nat.reduceAdd, szL, Nat.reduceLeDiff, List.nil_append, List.cons_append, decide_true, Int.reduceToNat, List.length_map] | simp only [r_c, r_var, r_tup, r_lst, r_fld, r_bi, r_meth, r_heap, t_c, b_nil, b_cons, v_nil, v_cons, i_seq, i_rev, g_name, g_fld, s_nil, s_cons, x_asg, x_ret, x_ex, x_for, r_comp, tr_b, va_v, kp_v, kp_n, se_t, se_l, se_n, bi_list, bi_tuple, st_set, sq_t, sq_l, hp_get, hp_set, fl_n, fl_r, ou_n, ou_r, re_t, fo_x, co_x, ki_n, kj_t, u_kTup, u_kLst, u_kFld, u_kBi, u_kVl, u_kB1, u_kB2, u_kV1, u_kV2, u_kV3, kRevI, u_kFst1, u_kFst2, u_kNx, u_kAsg, u_kRt, u_kRetS, u_kEx, u_kI1, u_kJ0, u_kJ2, u_kJ3, u_kNw, u_kTp, kMeth1, kHeap, u_kExc, u_kOutX, wipe, kO_some, true_and, and_true, List.length_cons, List.length_nil, List.getElem?_cons_zero, List.getElem?_cons_succ, List.set_cons_zero, List.set_cons_succ, Nat.reduceAdd, szL, Nat.reduceLeDiff, List.nil_append, List.cons_append, decide_true, Int.reduceToNat, List.length_map])
set_option hygiene false in
local macro_rules | `(tactic| fail "qs") => `(tactic| first
  | with_reducible refine if_s (fun hq => ?_) (fun hq => ?_)
  | with_reducible refine at_s (fun hq => ?_) (fun hq => ?_)
  | with_reducible refine ot_s (fun hq => ?_) (fun hq => ?_)
  | with_reducible refine it_s (fun hq => ?_) (fun hq => ?_)
  | with_reducible refine ad_s (fun hq => ?_) (fun hq => ?_)
  | with_reducible refine or_s (fun hq => ?_) (fun hq => ?_)
  | with_reducible refine ch_s (fun hq => ?_) (fun hq => ?_)
  | with_reducible refine c1_s (fun hq => ?_) (fun hq => ?_))
local macro_rules | `(tactic| fail "sd") => `(tactic| first
  | assumption
  | omega
  | exact smR (by omega) (by omega)
  | exact bdI (by omega) (by omega)
  | exact And.intro (bdI (by omega) (by omega)) (bdI (by omega) (by omega))
  | exact smL (by omega) (by omega)
  | decide)
set_option hygiene false in
local macro_rules | `(tactic| fail "g1") => `(tactic| first
  | fail "st"
  | (fail "qs" <;> (try simp only [decide_eq_true_eq, decide_eq_false_iff_not, Bool.not_eq_true', Bool.not_eq_false', beq_iff_eq, bne_iff_ne, ne_eq, Int.not_le, Int.not_lt] at hq))
  | ((with_reducible apply And.intro); (case left => fail "sd"))
  | fail "none")
set_option hygiene false in
local macro_rules | `(tactic| fail "go") => `(tactic| repeat' fail "g1")
set_option hygiene false in
local macro_rules | `(tactic| fail "ha") => `(tactic| first
  | assumption
  | exact HasA.set (by assumption)
  | fail "none")
set_option hygiene false in
local macro_rules | `(tactic| fail "dr") => `(tactic| first
  | (with_reducible refine draw_A hD (by fail "ha") (by omega) (by omega) ?_; intro v c hc hv0 hv1)
  | (with_reducible refine spend_A hS (by fail "ha") ?_; intro b c hc)
  | (with_reducible refine number_A hD hN (by fail "ha") ?_; intro v c hc hv0 hv1)
  | (with_reducible refine few_A hD hF (by fail "ha") (by omega) (by omega) ?_; intro v c hc hv0 hv1)
  | fail "none")
set_option hygiene false in
local macro_rules | `(tactic| fail "gd") => `(tactic| repeat' (first | fail "g1" | fail "dr" | fail "none"))

set_option hygiene false in
local macro_rules | `(tactic| fail "ob") => `(tactic| simp only [fd_o, fs_r, cs_i, pf_n, pf_c, hn_get, hn_set, hn_next, hs_next, G_call, Option.map_some, List.map_cons, List.map_nil, ic_c, ic_i, u_kMeth, String.reduceEq, reduceIte, List.mem_cons, List.not_mem_nil, or_false, true_and, and_true, kO_some, u_kVl, List.length_cons, List.length_nil, Nat.reduceAdd, Nat.reduceLT, eq_self, decide_true, Bool.true_and, look, Option.isNone_none])
set_option hygiene false in
local macro_rules | `(tactic| fail "ma") => `(tactic| first | (rw [at_e ha1]) | (rw [at_e ha2]) | (rw [at_e ha3]) | (rw [at_e ha4]) | (rw [ati_e ha1]) | (rw [ati_e ha2]) | (rw [ati_e ha3]) | (rw [ati_e ha4]) | (rw [at_n (by (first | omega | (rw [List.length_map]; omega)))]; try rw [List.getElem_map]) | (rw [ix_nat (by (first | omega | (simp only [List.length_range, List.length_map]; omega)))]))
local macro_rules | `(tactic| fail "sx") => `(tactic| first | omega | (simp only [hs_next, hn_next]; omega))
local macro_rules | `(tactic| fail "rd") => `(tactic| repeat' (first | rw [hp_get] | (rw [hs_ne (by fail "sx")]) | (rw [hn_get2 (by first | rfl | fail "sx")]) | (rw [hn_ne (by fail "sx")]) | rw [hb_c]))
set_option hygiene false in
local macro_rules | `(tactic| fail "oo") => `(tactic| repeat' (first | fail "st" | simp only [hx] | simp only [hy] | simp only [hz] | simp only [hu] | simp only [hv] | simp only [hw] | fail "ob" | (with_reducible refine hw1 _ _ _ ?_) | (with_reducible refine hw2 _ _ _ ?_) | (with_reducible refine hw3 _ _ _ ?_)  | (rw [hs_ne (by omega)]) | (rw [hn_ne (by (first | omega | (simp only [hs_next, hn_next]; omega)))]) | fail "ma" | fail "dr" | fail "g1" | fail "none"))
set_option hygiene false in
local macro_rules | `(tactic| fail "on") => `(tactic| repeat' (first | fail "st" | simp only [hx] | simp only [hy] | simp only [hz] | simp only [hu] | simp only [hv] | simp only [hw] | fail "ob" | (with_reducible refine hw1 _ _ _ ?_) | (with_reducible refine hw2 _ _ _ ?_) | (with_reducible refine hw3 _ _ _ ?_)  | (rw [hs_ne (by omega)]) | (rw [hn_ne (by (first | omega | (simp only [hs_next, hn_next]; omega)))]) | fail "ma" | fail "dr" | ((with_reducible apply And.intro); (case left => fail "sd")) | fail "none"))

def bufV (bw : List (List Int)) : Val := .tup (bw.map fun w => .tup (w.map .int))
def compF (room : Int) (bw : List (List Int)) (procs : List Val) : List (String × Val) := [("room", .int room), ("buffers", bufV bw), ("procedures", .tup procs)]
def compV (room : Int) (bw : List (List Int)) (procs : List Val) : Val := .obj "Component" (compF room bw procs)
def chainV : List Val → Val → Val
  | [], r => r
  | x :: l, r => .tup [x, chainV l r]
section
variable {P : Prog} {lim k : Nat} {h : AHeap} {σ : List (Option SV)} {room : Int} {bw : List (List Int)} {procs : List Val}
abbrev Cp := Int × List (List Int) × List Val
def Cp.v (c : Cp) : Val := compV c.1 c.2.1 c.2.2
end
end IA

set_option Elab.async false
set_option linter.all false
set_option maxRecDepth 100000
set_option maxHeartbeats 4000000
/-! ## defined, fold: what the texts do (own text) -/
namespace IA
set_option hygiene false in
local macro_rules | `(tactic| fail "st") => `(tactic| first | simp only [hp, r_c, r_var, r_op, r_and, r_tup, r_ix, r_fld, r_bi, r_call, t_op, t_call, t_and, t_or, b_nil, b_cons, v_nil, v_cons, g_name, s_nil, s_cons, x_asg, x_ret, x_ifs, o_lt, o_eqS, if_t, if_f, at_t, ot_t, ot_f, tr_b, va_v, kp_v, bi_lenT, bi_intB, ix_t, at_0, at_1, at_2, st_set, fl_n, fl_r, ou_r, ca_G, re_t, u_kOp1, u_kOp2, u_kTup, u_kIx1, u_kFld, u_kBi, u_kVl, u_kB1, u_kB2, u_kV1, u_kV2, u_kV3, u_kNx, u_kAsg, u_kRt, u_kRetS, kO_some, true_and, List.length_cons, List.length_nil, List.getElem?_cons_zero, List.getElem?_cons_succ, List.set_cons_zero, List.set_cons_succ, Nat.reduceAdd, szL, Nat.reduceLeDiff, List.nil_append, List.cons_append, decide_true, decide_false, Bool.not_true, Bool.not_false, Int.reduceToNat, List.length_map] | simp only [r_c, r_var, r_op, r_and, r_tup, r_ix, r_fld, r_bi, r_call, t_op, t_call, t_and, t_or, b_nil, b_cons, v_nil, v_cons, g_name, s_nil, s_cons, x_asg, x_ret, x_ifs, o_lt, o_eqS, if_t, if_f, at_t, ot_t, ot_f, tr_b, va_v, kp_v, bi_lenT, bi_intB, ix_t, at_0, at_1, at_2, st_set, fl_n, fl_r, ou_r, ca_G, re_t, u_kOp1, u_kOp2, u_kTup, u_kIx1, u_kFld, u_kBi, u_kVl, u_kB1, u_kB2, u_kV1, u_kV2, u_kV3, u_kNx, u_kAsg, u_kRt, u_kRetS, kO_some, true_and, List.length_cons, List.length_nil, List.getElem?_cons_zero, List.getElem?_cons_succ, List.set_cons_zero, List.set_cons_succ, Nat.reduceAdd, szL, Nat.reduceLeDiff, List.nil_append, List.cons_append, decide_true, decide_false, Bool.not_true, Bool.not_false, Int.reduceToNat, List.length_map])
set_option hygiene false in
local macro_rules | `(tactic| fail "qs") => `(tactic| first
  | with_reducible refine if_s (fun hq => ?_) (fun hq => ?_)
  | with_reducible refine at_s (fun hq => ?_) (fun hq => ?_)
  | with_reducible refine ot_s (fun hq => ?_) (fun hq => ?_)
  | with_reducible refine it_s (fun hq => ?_) (fun hq => ?_)
  | with_reducible refine ad_s (fun hq => ?_) (fun hq => ?_)
  | with_reducible refine or_s (fun hq => ?_) (fun hq => ?_)
  | with_reducible refine ch_s (fun hq => ?_) (fun hq => ?_)
  | with_reducible refine c1_s (fun hq => ?_) (fun hq => ?_))
local macro_rules | `(tactic| fail "sd") => `(tactic| first
  | assumption
  | omega
  | exact smR (by omega) (by omega)
  | exact bdI (by omega) (by omega)
  | exact And.intro (bdI (by omega) (by omega)) (bdI (by omega) (by omega))
  | exact smL (by omega) (by omega)
  | decide)
set_option hygiene false in
local macro_rules | `(tactic| fail "g1") => `(tactic| first
  | fail "st"
  | (fail "qs" <;> (try simp only [decide_eq_true_eq, decide_eq_false_iff_not, Bool.not_eq_true', Bool.not_eq_false', beq_iff_eq, bne_iff_ne, ne_eq, Int.not_le, Int.not_lt] at hq))
  | ((with_reducible apply And.intro); (case left => fail "sd"))
  | fail "none")
set_option hygiene false in
local macro_rules | `(tactic| fail "go") => `(tactic| repeat' fail "g1")
set_option hygiene false in
local macro_rules | `(tactic| fail "ha") => `(tactic| first
  | assumption
  | exact HasA.set (by assumption)
  | fail "none")
set_option hygiene false in
local macro_rules | `(tactic| fail "dr") => `(tactic| first
  | (with_reducible refine draw_A hD (by fail "ha") (by omega) (by omega) ?_; intro v c hc hv0 hv1)
  | (with_reducible refine spend_A hS (by fail "ha") ?_; intro b c hc)
  | (with_reducible refine number_A hD hN (by fail "ha") ?_; intro v c hc hv0 hv1)
  | (with_reducible refine few_A hD hF (by fail "ha") (by omega) (by omega) ?_; intro v c hc hv0 hv1)
  | fail "none")
set_option hygiene false in
local macro_rules | `(tactic| fail "gd") => `(tactic| repeat' (first | fail "g1" | fail "dr" | fail "none"))

set_option hygiene false in
local macro_rules | `(tactic| fail "ob") => `(tactic| simp only [fd_o, Option.map_some, List.map_cons, List.map_nil, o_nmemG, o_memS2, o_memS4, String.reduceEq, reduceIte, List.mem_cons, List.not_mem_nil, or_false, true_and, kO_some, u_kVl, List.length_cons, List.length_nil, Nat.reduceAdd, Nat.reduceLT, eq_self, decide_true, Bool.true_and, look])
set_option hygiene false in
local macro_rules | `(tactic| fail "ma") => `(tactic| first | (rw [at_e ha1]) | (rw [at_e ha2]) | (rw [at_e ha3]) | (rw [at_e ha4]) | (rw [ati_e ha1]) | (rw [ati_e ha2]) | (rw [ati_e ha3]) | (rw [ati_e ha4]) | (rw [at_n (by (first | omega | (rw [List.length_map]; omega)))]; try rw [List.getElem_map]) | (rw [ix_nat (by (first | omega | (simp only [List.length_map]; omega)))]))
local macro_rules | `(tactic| fail "sx") => `(tactic| first | omega | (simp only []; omega))
local macro_rules | `(tactic| fail "rd") => `(tactic| repeat' (first | rw [hp_get] | (rw [hs_ne (by fail "sx")]) | (rw [hn_get2 (by first | rfl | fail "sx")]) | (rw [hn_ne (by fail "sx")]) | rw [hb_c]))
set_option hygiene false in
local macro_rules | `(tactic| fail "oo") => `(tactic| repeat' (first | fail "st" | simp only [hx] | simp only [hy] | simp only [hz] | simp only [hu] | simp only [hv] | simp only [hw] | fail "ob" | (with_reducible refine hw1 _ _ _ ?_) | (with_reducible refine hw2 _ _ _ ?_) | (with_reducible refine hw3 _ _ _ ?_)  | (rw [hs_ne (by omega)]) | (rw [hn_ne (by (first | omega | (simp only []; omega)))]) | fail "ma" | fail "dr" | fail "g1" | fail "none"))
set_option hygiene false in
local macro_rules | `(tactic| fail "on") => `(tactic| repeat' (first | fail "st" | simp only [hx] | simp only [hy] | simp only [hz] | simp only [hu] | simp only [hv] | simp only [hw] | fail "ob" | (with_reducible refine hw1 _ _ _ ?_) | (with_reducible refine hw2 _ _ _ ?_) | (with_reducible refine hw3 _ _ _ ?_)  | (rw [hs_ne (by omega)]) | (rw [hn_ne (by (first | omega | (simp only []; omega)))]) | fail "ma" | fail "dr" | ((with_reducible apply And.intro); (case left => fail "sd")) | fail "none"))

section
variable {P : Prog} {lim k : Nat} {room : Int} {bw : List (List Int)} {procs : List Val} {s : Shape}
end
end IA

set_option Elab.async false
set_option linter.all false
set_option maxRecDepth 100000
set_option maxHeartbeats 4000000
/-! ## The law's own folding (own text) -/
namespace IA
set_option hygiene false in
local macro_rules | `(tactic| fail "st") => `(tactic| first | simp only [hp, r_c, r_var, r_op, r_tup, r_lst, r_ix, r_sl, r_bi, r_bm, r_isi, r_call, t_op, t_isi, t_and, b_nil, b_cons, v_nil, v_cons, i_seq, g_name, g_nameN, s_nil, s_cons, x_asg, x_ret, x_ex, x_ifs, x_for, o_addI, o_sub, o_mul, o_fdiv, o_lt, o_gt, o_eqI, o_eqS, if_t, if_f, at_t, at_f, tr_b, va_v, va_o, kp_v, kp_o, ko_o, li_l, li_o, so_o, pk_i, pk_t, is_1, bi_lenT, bi_intB, bi_append, ix_t, at_0, at_1, at_2, st_set, put_o, sq_t, fl_n, fl_r, f2_n, ou_r, ca_G, re_t, fo_x, u_kOp1, u_kOp2, u_kTup, u_kLst, u_kIx1, u_kSl1, kSl2, kSl3, oi_n, oi_s, sl_t, u_kBi, u_kBm, u_kBm1, u_kBl, u_kB1, u_kB2, u_kV1, u_kV2, u_kV3, u_kNx, u_kAsg, u_kRt, u_kRetS, u_kEx, u_kF1, u_kIs1, u_kAp, kO_some, true_and, List.length_cons, List.length_nil, List.getElem?_cons_zero, List.getElem?_cons_succ, List.set_cons_zero, List.set_cons_succ, Nat.reduceAdd, szL, Nat.reduceLeDiff, ofT, List.nil_append, List.cons_append, decide_true, decide_false, recvOk, Option.isSome_some, Int.reduceToNat, List.length_map] | simp only [r_c, r_var, r_op, r_tup, r_lst, r_ix, r_sl, r_bi, r_bm, r_isi, r_call, t_op, t_isi, t_and, b_nil, b_cons, v_nil, v_cons, i_seq, g_name, g_nameN, s_nil, s_cons, x_asg, x_ret, x_ex, x_ifs, x_for, o_addI, o_sub, o_mul, o_fdiv, o_lt, o_gt, o_eqI, o_eqS, if_t, if_f, at_t, at_f, tr_b, va_v, va_o, kp_v, kp_o, ko_o, li_l, li_o, so_o, pk_i, pk_t, is_1, bi_lenT, bi_intB, bi_append, ix_t, at_0, at_1, at_2, st_set, put_o, sq_t, fl_n, fl_r, f2_n, ou_r, ca_G, re_t, fo_x, u_kOp1, u_kOp2, u_kTup, u_kLst, u_kIx1, u_kSl1, kSl2, kSl3, oi_n, oi_s, sl_t, u_kBi, u_kBm, u_kBm1, u_kBl, u_kB1, u_kB2, u_kV1, u_kV2, u_kV3, u_kNx, u_kAsg, u_kRt, u_kRetS, u_kEx, u_kF1, u_kIs1, u_kAp, kO_some, true_and, List.length_cons, List.length_nil, List.getElem?_cons_zero, List.getElem?_cons_succ, List.set_cons_zero, List.set_cons_succ, Nat.reduceAdd, szL, Nat.reduceLeDiff, ofT, List.nil_append, List.cons_append, decide_true, decide_false, recvOk, Option.isSome_some, Int.reduceToNat, List.length_map])
set_option hygiene false in
local macro_rules | `(tactic| fail "qs") => `(tactic| first
  | with_reducible refine if_s (fun hq => ?_) (fun hq => ?_)
  | with_reducible refine at_s (fun hq => ?_) (fun hq => ?_)
  | with_reducible refine ot_s (fun hq => ?_) (fun hq => ?_)
  | with_reducible refine it_s (fun hq => ?_) (fun hq => ?_)
  | with_reducible refine ad_s (fun hq => ?_) (fun hq => ?_)
  | with_reducible refine or_s (fun hq => ?_) (fun hq => ?_)
  | with_reducible refine ch_s (fun hq => ?_) (fun hq => ?_)
  | with_reducible refine c1_s (fun hq => ?_) (fun hq => ?_))
local macro_rules | `(tactic| fail "sd") => `(tactic| first
  | assumption
  | omega
  | exact smR (by omega) (by omega)
  | exact bdI (by omega) (by omega)
  | exact And.intro (bdI (by omega) (by omega)) (bdI (by omega) (by omega))
  | exact smL (by omega) (by omega)
  | decide)
set_option hygiene false in
local macro_rules | `(tactic| fail "g1") => `(tactic| first
  | fail "st"
  | (fail "qs" <;> (try simp only [decide_eq_true_eq, decide_eq_false_iff_not, Bool.not_eq_true', Bool.not_eq_false', beq_iff_eq, bne_iff_ne, ne_eq, Int.not_le, Int.not_lt] at hq))
  | ((with_reducible apply And.intro); (case left => fail "sd"))
  | fail "none")
set_option hygiene false in
local macro_rules | `(tactic| fail "go") => `(tactic| repeat' fail "g1")
set_option hygiene false in
local macro_rules | `(tactic| fail "ha") => `(tactic| first
  | assumption
  | exact HasA.set (by assumption)
  | fail "none")
set_option hygiene false in
local macro_rules | `(tactic| fail "dr") => `(tactic| first
  | (with_reducible refine draw_A hD (by fail "ha") (by omega) (by omega) ?_; intro v c hc hv0 hv1)
  | (with_reducible refine spend_A hS (by fail "ha") ?_; intro b c hc)
  | (with_reducible refine number_A hD hN (by fail "ha") ?_; intro v c hc hv0 hv1)
  | (with_reducible refine few_A hD hF (by fail "ha") (by omega) (by omega) ?_; intro v c hc hv0 hv1)
  | fail "none")
set_option hygiene false in
local macro_rules | `(tactic| fail "gd") => `(tactic| repeat' (first | fail "g1" | fail "dr" | fail "none"))

set_option hygiene false in
local macro_rules | `(tactic| fail "ob") => `(tactic| simp only [Int.add_sub_cancel, List.map_append, List.map_cons, List.map_nil, String.reduceEq, reduceIte, List.mem_cons, List.not_mem_nil, true_and, kO_some, List.length_cons, List.length_nil, Nat.reduceAdd, Nat.reduceLT, eq_self, decide_true, Bool.true_and])
set_option hygiene false in
local macro_rules | `(tactic| fail "ma") => `(tactic| first | (rw [at_e ha1]) | (rw [at_e ha2]) | (rw [at_e ha3]) | (rw [at_e ha4]) | (rw [ati_e ha1]) | (rw [ati_e ha2]) | (rw [ati_e ha3]) | (rw [ati_e ha4]) | (rw [at_n (by (first | omega | (rw [List.length_map]; omega)))]; try rw [List.getElem_map]) | (rw [ix_nat (by (first | omega | (simp only [List.length_map]; omega)))]))
local macro_rules | `(tactic| fail "sx") => `(tactic| first | omega | (simp only []; omega))
local macro_rules | `(tactic| fail "rd") => `(tactic| repeat' (first | rw [hp_get] | (rw [hs_ne (by fail "sx")]) | (rw [hn_get2 (by first | rfl | fail "sx")]) | (rw [hn_ne (by fail "sx")]) | rw [hb_c]))
set_option hygiene false in
local macro_rules | `(tactic| fail "oo") => `(tactic| repeat' (first | fail "st" | simp only [hx] | simp only [hy] | simp only [hz] | simp only [hu] | simp only [hv] | simp only [hw] | fail "ob" | (with_reducible refine hw1 _ _ _ ?_) | (with_reducible refine hw2 _ _ _ ?_) | (with_reducible refine hw3 _ _ _ ?_)  | (rw [hs_ne (by omega)]) | (rw [hn_ne (by (first | omega | (simp only []; omega)))]) | fail "ma" | fail "dr" | fail "g1" | fail "none"))
set_option hygiene false in
local macro_rules | `(tactic| fail "on") => `(tactic| repeat' (first | fail "st" | simp only [hx] | simp only [hy] | simp only [hz] | simp only [hu] | simp only [hv] | simp only [hw] | fail "ob" | (with_reducible refine hw1 _ _ _ ?_) | (with_reducible refine hw2 _ _ _ ?_) | (with_reducible refine hw3 _ _ _ ?_)  | (rw [hs_ne (by omega)]) | (rw [hn_ne (by (first | omega | (simp only []; omega)))]) | fail "ma" | fail "dr" | ((with_reducible apply And.intro); (case left => fail "sd")) | fail "none"))

section
variable {P : Prog} {lim k : Nat} {h : AHeap} {bw : List (List Int)} {s : Shape} {Φ : Val → AHeap → Prop} {Ψ : String → Val → AHeap → Prop}
end
end IA

set_option Elab.async false
set_option linter.all false
set_option maxRecDepth 100000
set_option maxHeartbeats 4000000
/-! ## The law's own folding of expressions (own text) -/
namespace IA
set_option hygiene false in
local macro_rules | `(tactic| fail "st") => `(tactic| first | simp only [hp, r_c, r_var, r_op, r_tup, r_ix, r_bi, r_call, t_op, t_call, t_and, t_or, b_nil, b_cons, v_nil, v_cons, i_seq, g_name, s_nil, s_cons, x_asg, x_ret, x_ifs, x_for, o_ge, o_eqS, if_t, if_f, at_t, ot_t, ot_f, tr_b, va_v, kp_v, bi_intB, ix_t, ix_l, at_0, at_1, at_2, st_set, sq_l, fl_n, fl_r, ou_r, ca_G, re_t, fo_x, ki_n, ki_r, u_kOp1, u_kOp2, u_kTup, u_kIx1, u_kBi, u_kB1, u_kB2, u_kV1, u_kV2, u_kV3, u_kNx, u_kAsg, u_kRt, u_kRetS, u_kI1, true_and, and_true, List.length_cons, List.length_nil, List.getElem?_cons_zero, List.getElem?_cons_succ, List.set_cons_zero, List.set_cons_succ, Nat.reduceAdd, szL, Nat.reduceLeDiff, List.nil_append, List.cons_append, decide_true, decide_false, Int.reduceToNat, List.length_map] | simp only [r_c, r_var, r_op, r_tup, r_ix, r_bi, r_call, t_op, t_call, t_and, t_or, b_nil, b_cons, v_nil, v_cons, i_seq, g_name, s_nil, s_cons, x_asg, x_ret, x_ifs, x_for, o_ge, o_eqS, if_t, if_f, at_t, ot_t, ot_f, tr_b, va_v, kp_v, bi_intB, ix_t, ix_l, at_0, at_1, at_2, st_set, sq_l, fl_n, fl_r, ou_r, ca_G, re_t, fo_x, ki_n, ki_r, u_kOp1, u_kOp2, u_kTup, u_kIx1, u_kBi, u_kB1, u_kB2, u_kV1, u_kV2, u_kV3, u_kNx, u_kAsg, u_kRt, u_kRetS, u_kI1, true_and, and_true, List.length_cons, List.length_nil, List.getElem?_cons_zero, List.getElem?_cons_succ, List.set_cons_zero, List.set_cons_succ, Nat.reduceAdd, szL, Nat.reduceLeDiff, List.nil_append, List.cons_append, decide_true, decide_false, Int.reduceToNat, List.length_map])
set_option hygiene false in
local macro_rules | `(tactic| fail "qs") => `(tactic| first
  | with_reducible refine if_s (fun hq => ?_) (fun hq => ?_)
  | with_reducible refine at_s (fun hq => ?_) (fun hq => ?_)
  | with_reducible refine ot_s (fun hq => ?_) (fun hq => ?_)
  | with_reducible refine it_s (fun hq => ?_) (fun hq => ?_)
  | with_reducible refine ad_s (fun hq => ?_) (fun hq => ?_)
  | with_reducible refine or_s (fun hq => ?_) (fun hq => ?_)
  | with_reducible refine ch_s (fun hq => ?_) (fun hq => ?_)
  | with_reducible refine c1_s (fun hq => ?_) (fun hq => ?_))
local macro_rules | `(tactic| fail "sd") => `(tactic| first
  | assumption
  | omega
  | exact smR (by omega) (by omega)
  | exact bdI (by omega) (by omega)
  | exact And.intro (bdI (by omega) (by omega)) (bdI (by omega) (by omega))
  | exact smL (by omega) (by omega)
  | decide)
set_option hygiene false in
local macro_rules | `(tactic| fail "g1") => `(tactic| first
  | fail "st"
  | (fail "qs" <;> (try simp only [decide_eq_true_eq, decide_eq_false_iff_not, Bool.not_eq_true', Bool.not_eq_false', beq_iff_eq, bne_iff_ne, ne_eq, Int.not_le, Int.not_lt] at hq))
  | ((with_reducible apply And.intro); (case left => fail "sd"))
  | fail "none")
set_option hygiene false in
local macro_rules | `(tactic| fail "go") => `(tactic| repeat' fail "g1")
set_option hygiene false in
local macro_rules | `(tactic| fail "ha") => `(tactic| first
  | assumption
  | exact HasA.set (by assumption)
  | fail "none")
set_option hygiene false in
local macro_rules | `(tactic| fail "dr") => `(tactic| first
  | (with_reducible refine draw_A hD (by fail "ha") (by omega) (by omega) ?_; intro v c hc hv0 hv1)
  | (with_reducible refine spend_A hS (by fail "ha") ?_; intro b c hc)
  | (with_reducible refine number_A hD hN (by fail "ha") ?_; intro v c hc hv0 hv1)
  | (with_reducible refine few_A hD hF (by fail "ha") (by omega) (by omega) ?_; intro v c hc hv0 hv1)
  | fail "none")
set_option hygiene false in
local macro_rules | `(tactic| fail "gd") => `(tactic| repeat' (first | fail "g1" | fail "dr" | fail "none"))

set_option hygiene false in
local macro_rules | `(tactic| fail "ob") => `(tactic| simp only [Option.map_some, List.map_cons, List.map_nil, o_memS4, String.reduceEq, reduceIte, or_false, or_true, true_and, and_true, List.length_cons, List.length_nil, Nat.reduceAdd, Nat.reduceLT, eq_self, decide_true, Bool.true_and])
set_option hygiene false in
local macro_rules | `(tactic| fail "ma") => `(tactic| first | (rw [at_e ha1]) | (rw [at_e ha2]) | (rw [at_e ha3]) | (rw [at_e ha4]) | (rw [ati_e ha1]) | (rw [ati_e ha2]) | (rw [ati_e ha3]) | (rw [ati_e ha4]) | (rw [at_n (by (first | omega | (rw [List.length_map]; omega)))]; try rw [List.getElem_map]) | (rw [ix_nat (by (first | omega | (simp only [List.length_map]; omega)))]))
local macro_rules | `(tactic| fail "sx") => `(tactic| first | omega | (simp only []; omega))
local macro_rules | `(tactic| fail "rd") => `(tactic| repeat' (first | rw [hp_get] | (rw [hs_ne (by fail "sx")]) | (rw [hn_get2 (by first | rfl | fail "sx")]) | (rw [hn_ne (by fail "sx")]) | rw [hb_c]))
set_option hygiene false in
local macro_rules | `(tactic| fail "oo") => `(tactic| repeat' (first | fail "st" | simp only [hx] | simp only [hy] | simp only [hz] | simp only [hu] | simp only [hv] | simp only [hw] | fail "ob" | (with_reducible refine hw1 _ _ _ ?_) | (with_reducible refine hw2 _ _ _ ?_) | (with_reducible refine hw3 _ _ _ ?_)  | (rw [hs_ne (by omega)]) | (rw [hn_ne (by (first | omega | (simp only []; omega)))]) | fail "ma" | fail "dr" | fail "g1" | fail "none"))
set_option hygiene false in
local macro_rules | `(tactic| fail "on") => `(tactic| repeat' (first | fail "st" | simp only [hx] | simp only [hy] | simp only [hz] | simp only [hu] | simp only [hv] | simp only [hw] | fail "ob" | (with_reducible refine hw1 _ _ _ ?_) | (with_reducible refine hw2 _ _ _ ?_) | (with_reducible refine hw3 _ _ _ ?_)  | (rw [hs_ne (by omega)]) | (rw [hn_ne (by (first | omega | (simp only []; omega)))]) | fail "ma" | fail "dr" | ((with_reducible apply And.intro); (case left => fail "sd")) | fail "none"))

section
variable {P : Prog} {lim k : Nat} {h : AHeap} {bw : List (List Int)} {s : Shape}
end
end IA

set_option Elab.async false
set_option linter.all false
set_option maxRecDepth 100000
set_option maxHeartbeats 4000000
/-! ## Statements, blocks, components as data; their draws (own text) -/
namespace IA
set_option hygiene false in
local macro_rules | `(tactic| fail "st") => `(tactic| first | simp only [hp, r_c, r_var, r_op, r_tup, r_lst, r_ix, r_bi, r_bm, r_call, t_op, t_call, t_and, b_nil, b_cons, v_nil, v_cons, i_rng, g_name, g_nameN, s_nil, s_cons, x_asg, x_ret, x_ex, x_ifs, x_for, o_addI, o_addT, o_sub, o_lt, o_gt, o_eqI, if_f, tr_b, va_v, va_o, kp_v, li_o, so_o, se_o, bi_lenL, bi_tuple, bi_append, ix_l, at_0, at_1, at_2, at_3, st_set, put_o, hp_set, fl_n, fl_r, ou_r, ca_G, re_t, fo_x, ki_n, u_kOp1, u_kOp2, u_kTup, u_kLst, u_kIx1, u_kBi, u_kBm, u_kBm1, u_kB1, u_kB2, u_kV1, u_kV2, u_kV3, kRng, u_kNx, u_kAsg, u_kRt, u_kRetS, u_kEx, u_kI1, u_kTp, u_kAp, kO_some, true_and, List.length_cons, List.length_nil, List.getElem?_cons_zero, List.getElem?_cons_succ, List.set_cons_zero, List.set_cons_succ, Nat.reduceAdd, szL, Nat.reduceLeDiff, List.nil_append, List.cons_append, recvOk, Option.isSome_some, Int.reduceToNat, List.length_map] | simp only [r_c, r_var, r_op, r_tup, r_lst, r_ix, r_bi, r_bm, r_call, t_op, t_call, t_and, b_nil, b_cons, v_nil, v_cons, i_rng, g_name, g_nameN, s_nil, s_cons, x_asg, x_ret, x_ex, x_ifs, x_for, o_addI, o_addT, o_sub, o_lt, o_gt, o_eqI, if_f, tr_b, va_v, va_o, kp_v, li_o, so_o, se_o, bi_lenL, bi_tuple, bi_append, ix_l, at_0, at_1, at_2, at_3, st_set, put_o, hp_set, fl_n, fl_r, ou_r, ca_G, re_t, fo_x, ki_n, u_kOp1, u_kOp2, u_kTup, u_kLst, u_kIx1, u_kBi, u_kBm, u_kBm1, u_kB1, u_kB2, u_kV1, u_kV2, u_kV3, kRng, u_kNx, u_kAsg, u_kRt, u_kRetS, u_kEx, u_kI1, u_kTp, u_kAp, kO_some, true_and, List.length_cons, List.length_nil, List.getElem?_cons_zero, List.getElem?_cons_succ, List.set_cons_zero, List.set_cons_succ, Nat.reduceAdd, szL, Nat.reduceLeDiff, List.nil_append, List.cons_append, recvOk, Option.isSome_some, Int.reduceToNat, List.length_map])
set_option hygiene false in
local macro_rules | `(tactic| fail "qs") => `(tactic| first
  | with_reducible refine if_s (fun hq => ?_) (fun hq => ?_)
  | with_reducible refine at_s (fun hq => ?_) (fun hq => ?_)
  | with_reducible refine ot_s (fun hq => ?_) (fun hq => ?_)
  | with_reducible refine it_s (fun hq => ?_) (fun hq => ?_)
  | with_reducible refine ad_s (fun hq => ?_) (fun hq => ?_)
  | with_reducible refine or_s (fun hq => ?_) (fun hq => ?_)
  | with_reducible refine ch_s (fun hq => ?_) (fun hq => ?_)
  | with_reducible refine c1_s (fun hq => ?_) (fun hq => ?_))
local macro_rules | `(tactic| fail "sd") => `(tactic| first
  | assumption
  | omega
  | exact smR (by omega) (by omega)
  | exact bdI (by omega) (by omega)
  | exact And.intro (bdI (by omega) (by omega)) (bdI (by omega) (by omega))
  | exact smL (by omega) (by omega)
  | decide)
set_option hygiene false in
local macro_rules | `(tactic| fail "g1") => `(tactic| first
  | fail "st"
  | (fail "qs" <;> (try simp only [decide_eq_true_eq, decide_eq_false_iff_not, Bool.not_eq_true', Bool.not_eq_false', beq_iff_eq, bne_iff_ne, ne_eq, Int.not_le, Int.not_lt] at hq))
  | ((with_reducible apply And.intro); (case left => fail "sd"))
  | fail "none")
set_option hygiene false in
local macro_rules | `(tactic| fail "go") => `(tactic| repeat' fail "g1")
set_option hygiene false in
local macro_rules | `(tactic| fail "ha") => `(tactic| first
  | assumption
  | exact HasA.set (by assumption)
  | fail "none")
set_option hygiene false in
local macro_rules | `(tactic| fail "dr") => `(tactic| first
  | (with_reducible refine draw_A hD (by fail "ha") (by omega) (by omega) ?_; intro v c hc hv0 hv1)
  | (with_reducible refine spend_A hS (by fail "ha") ?_; intro b c hc)
  | (with_reducible refine number_A hD hN (by fail "ha") ?_; intro v c hc hv0 hv1)
  | (with_reducible refine few_A hD hF (by fail "ha") (by omega) (by omega) ?_; intro v c hc hv0 hv1)
  | fail "none")
set_option hygiene false in
local macro_rules | `(tactic| fail "gd") => `(tactic| repeat' (first | fail "g1" | fail "dr" | fail "none"))

inductive Sm where
  | ret (e : Ex) | set (l : Int) (e : Ex) | put (b : Int) (i e : Ex) | call (l t : Int) (e : Ex) | use (l t : Int) (e : Ex) | ifs (c : Ex) (a b : List Sm) | loop (c : Ex) (a : List Sm)
mutual
def Sm.v : Sm → Val
  | .ret e => .tup [.str "return", e.v]
  | .set l e => .tup [.str "set", .int l, e.v]
  | .put b i e => .tup [.str "put", .int b, i.v, e.v]
  | .call l t e => .tup [.str "call", .int l, .int t, e.v]
  | .use l t e => .tup [.str "use", .int l, .int t, e.v]
  | .ifs c a b => .tup [.str "if", c.v, .tup (Sm.vs a), .tup (Sm.vs b)]
  | .loop c a => .tup [.str "while", c.v, .tup (Sm.vs a)]
def Sm.vs : List Sm → List Val
  | [] => []
  | x :: r => x.v :: Sm.vs r
end
mutual
/-- branches at most d deep, expressions at most 4 -/
def Sm.ok (s : Shape) : Nat → Sm → Prop
  | _, .ret e => e.ok s 4
  | _, .set l e => 0 ≤ l ∧ l < s.cells ∧ e.ok s 4
  | _, .put b i e => 0 ≤ b ∧ b < s.sizes.length ∧ i.ok s 4 ∧ e.ok s 4
  | _, .call l t e => 0 ≤ l ∧ l < s.cells ∧ 0 ≤ t ∧ t < s.count ∧ e.ok s 4
  | _, .use l t e => 0 ≤ l ∧ l < s.cells ∧ 0 ≤ t ∧ t < s.imports ∧ e.ok s 4
  | d, .ifs c a b => 1 ≤ d ∧ c.ok s 4 ∧ Sm.oks s (d - 1) a ∧ Sm.oks s (d - 1) b ∧ a.length ≤ 100 ∧ b.length ≤ 100
  | d, .loop c a => 1 ≤ d ∧ c.ok s 4 ∧ Sm.oks s (d - 1) a ∧ a.length ≤ 100
def Sm.oks (s : Shape) : Nat → List Sm → Prop
  | _, [] => True
  | d, x :: r => x.ok s d ∧ Sm.oks s d r
end
section
variable {P : Prog} {lim k : Nat} {h : AHeap} {p : Nat} {ns : List Int} {n : Int} {Φ : Val → AHeap → Prop} {Ψ : String → Val → AHeap → Prop}
set_option hygiene false in
local macro_rules | `(tactic| fail "de") => `(tactic| first
  | (refine hE3 _ _ _ (by fail "ha") ?_; intro x c hx hc)
  | (refine hE2 _ _ _ (by fail "ha") ?_; intro x c hx hc)
  | (refine hE4 _ _ _ (by fail "ha") ?_; intro x c hx hc)
  | (refine hI _ _ _ _ (by fail "ha") (by assumption) (by assumption) ?_; intro x c hx hc)
  | (rw [show ((d : Int) - 1) = ((d - 1 : Nat) : Int) from by omega]; refine hB (by omega) _ _ _ _ (by omega) (by omega) (by fail "ha") ?_; intro xs c hx hl hc)
  | fail "none")
set_option hygiene false in
local macro_rules | `(tactic| fail "gx") => `(tactic| repeat' (first | fail "g1" | fail "dr" | fail "de" | fail "none"))
end
end IA

set_option Elab.async false
set_option linter.all false
set_option maxRecDepth 100000
set_option maxHeartbeats 4000000
/-! ## Folded statements (own text) -/
namespace IA
set_option hygiene false in
local macro_rules | `(tactic| fail "st") => `(tactic| first | simp only [hp, r_c, r_var, r_op, r_neg, r_tup, r_lst, r_ix, r_sl, r_bi, r_bm, r_isi, r_call, t_op, t_isi, t_and, b_nil, b_cons, v_nil, v_cons, i_seq, g_name, g_nameN, s_nil, s_cons, x_asg, x_ret, x_ex, x_ifs, x_for, o_addT, o_gt, o_eqS, if_t, if_f, at_t, at_f, tr_b, va_v, va_o, kp_v, li_o, so_o, se_o, pk_i, pk_s, pk_t, is_1, bi_lenT, bi_tuple, bi_append, ix_t, at_0, at_1, at_2, at_3, st_set, put_o, sq_t, fl_n, fl_r, f2_n, ou_r, ca_G, re_t, fo_x, ki_n, u_kOp1, u_kOp2, kNeg, u_kTup, u_kLst, u_kIx1, u_kSl1, kSl2, kSl3, oi_n, oi_s, sl_t, u_kBi, u_kBm, u_kBm1, u_kBl, u_kB1, u_kB2, u_kV1, u_kV2, u_kV3, u_kNx, u_kAsg, u_kRt, u_kRetS, u_kEx, u_kF1, u_kI1, u_kIs1, u_kTp, u_kAp, kO_some, true_and, List.length_cons, List.length_nil, List.getElem?_cons_zero, List.getElem?_cons_succ, List.set_cons_zero, List.set_cons_succ, Nat.reduceAdd, szL, Nat.reduceLeDiff, ofT, List.nil_append, List.cons_append, decide_true, decide_false, recvOk, Option.isSome_some, Int.reduceToNat] | simp only [r_c, r_var, r_op, r_neg, r_tup, r_lst, r_ix, r_sl, r_bi, r_bm, r_isi, r_call, t_op, t_isi, t_and, b_nil, b_cons, v_nil, v_cons, i_seq, g_name, g_nameN, s_nil, s_cons, x_asg, x_ret, x_ex, x_ifs, x_for, o_addT, o_gt, o_eqS, if_t, if_f, at_t, at_f, tr_b, va_v, va_o, kp_v, li_o, so_o, se_o, pk_i, pk_s, pk_t, is_1, bi_lenT, bi_tuple, bi_append, ix_t, at_0, at_1, at_2, at_3, st_set, put_o, sq_t, fl_n, fl_r, f2_n, ou_r, ca_G, re_t, fo_x, ki_n, u_kOp1, u_kOp2, kNeg, u_kTup, u_kLst, u_kIx1, u_kSl1, kSl2, kSl3, oi_n, oi_s, sl_t, u_kBi, u_kBm, u_kBm1, u_kBl, u_kB1, u_kB2, u_kV1, u_kV2, u_kV3, u_kNx, u_kAsg, u_kRt, u_kRetS, u_kEx, u_kF1, u_kI1, u_kIs1, u_kTp, u_kAp, kO_some, true_and, List.length_cons, List.length_nil, List.getElem?_cons_zero, List.getElem?_cons_succ, List.set_cons_zero, List.set_cons_succ, Nat.reduceAdd, szL, Nat.reduceLeDiff, ofT, List.nil_append, List.cons_append, decide_true, decide_false, recvOk, Option.isSome_some, Int.reduceToNat])
set_option hygiene false in
local macro_rules | `(tactic| fail "qs") => `(tactic| first
  | with_reducible refine if_s (fun hq => ?_) (fun hq => ?_)
  | with_reducible refine at_s (fun hq => ?_) (fun hq => ?_)
  | with_reducible refine ot_s (fun hq => ?_) (fun hq => ?_)
  | with_reducible refine it_s (fun hq => ?_) (fun hq => ?_)
  | with_reducible refine ad_s (fun hq => ?_) (fun hq => ?_)
  | with_reducible refine or_s (fun hq => ?_) (fun hq => ?_)
  | with_reducible refine ch_s (fun hq => ?_) (fun hq => ?_)
  | with_reducible refine c1_s (fun hq => ?_) (fun hq => ?_))
local macro_rules | `(tactic| fail "sd") => `(tactic| first
  | assumption
  | omega
  | exact smR (by omega) (by omega)
  | exact bdI (by omega) (by omega)
  | exact And.intro (bdI (by omega) (by omega)) (bdI (by omega) (by omega))
  | exact smL (by omega) (by omega)
  | decide)
set_option hygiene false in
local macro_rules | `(tactic| fail "g1") => `(tactic| first
  | fail "st"
  | (fail "qs" <;> (try simp only [decide_eq_true_eq, decide_eq_false_iff_not, Bool.not_eq_true', Bool.not_eq_false', beq_iff_eq, bne_iff_ne, ne_eq, Int.not_le, Int.not_lt] at hq))
  | ((with_reducible apply And.intro); (case left => fail "sd"))
  | fail "none")
set_option hygiene false in
local macro_rules | `(tactic| fail "go") => `(tactic| repeat' fail "g1")
set_option hygiene false in
local macro_rules | `(tactic| fail "ha") => `(tactic| first
  | assumption
  | exact HasA.set (by assumption)
  | fail "none")
set_option hygiene false in
local macro_rules | `(tactic| fail "dr") => `(tactic| first
  | (with_reducible refine draw_A hD (by fail "ha") (by omega) (by omega) ?_; intro v c hc hv0 hv1)
  | (with_reducible refine spend_A hS (by fail "ha") ?_; intro b c hc)
  | (with_reducible refine number_A hD hN (by fail "ha") ?_; intro v c hc hv0 hv1)
  | (with_reducible refine few_A hD hF (by fail "ha") (by omega) (by omega) ?_; intro v c hc hv0 hv1)
  | fail "none")
set_option hygiene false in
local macro_rules | `(tactic| fail "gd") => `(tactic| repeat' (first | fail "g1" | fail "dr" | fail "none"))

set_option hygiene false in
local macro_rules | `(tactic| fail "ob") => `(tactic| simp only [Option.map_some, List.map_cons, List.map_nil, Row.v, String.reduceEq, reduceIte, true_and, kO_some, List.length_cons, List.length_nil, Nat.reduceAdd, Nat.reduceLT, eq_self, decide_true, Bool.true_and])
set_option hygiene false in
local macro_rules | `(tactic| fail "ma") => `(tactic| first | (rw [at_e ha1]) | (rw [at_e ha2]) | (rw [at_e ha3]) | (rw [at_e ha4]) | (rw [ati_e ha1]) | (rw [ati_e ha2]) | (rw [ati_e ha3]) | (rw [ati_e ha4]) | (rw [at_n (by (first | omega | (rw [List.length_map]; omega)))]; try rw [List.getElem_map]) | (rw [ix_nat (by (first | omega | (simp only []; omega)))]))
local macro_rules | `(tactic| fail "sx") => `(tactic| first | omega | (simp only []; omega))
local macro_rules | `(tactic| fail "rd") => `(tactic| repeat' (first | rw [hp_get] | (rw [hs_ne (by fail "sx")]) | (rw [hn_get2 (by first | rfl | fail "sx")]) | (rw [hn_ne (by fail "sx")]) | rw [hb_c]))
set_option hygiene false in
local macro_rules | `(tactic| fail "oo") => `(tactic| repeat' (first | fail "st" | simp only [hx] | simp only [hy] | simp only [hz] | simp only [hu] | simp only [hv] | simp only [hw] | fail "ob" | (with_reducible refine hw1 _ _ _ ?_) | (with_reducible refine hw2 _ _ _ ?_) | (with_reducible refine hw3 _ _ _ ?_)  | (rw [hs_ne (by omega)]) | (rw [hn_ne (by (first | omega | (simp only []; omega)))]) | fail "ma" | fail "dr" | fail "g1" | fail "none"))
set_option hygiene false in
local macro_rules | `(tactic| fail "on") => `(tactic| repeat' (first | fail "st" | simp only [hx] | simp only [hy] | simp only [hz] | simp only [hu] | simp only [hv] | simp only [hw] | fail "ob" | (with_reducible refine hw1 _ _ _ ?_) | (with_reducible refine hw2 _ _ _ ?_) | (with_reducible refine hw3 _ _ _ ?_)  | (rw [hs_ne (by omega)]) | (rw [hn_ne (by (first | omega | (simp only []; omega)))]) | fail "ma" | fail "dr" | ((with_reducible apply And.intro); (case left => fail "sd")) | fail "none"))

mutual
def Sm.fold (ok : Ex → Bool) : Sm → Sm
  | .ret e => .ret (e.fold ok)
  | .set l e => .set l (e.fold ok)
  | .put b i e => .put b (i.fold ok) (e.fold ok)
  | .call l t e => .call l t (e.fold ok)
  | .use l t e => .use l t (e.fold ok)
  | .ifs c a b => .ifs (c.fold ok) (Sm.folds ok a) (Sm.folds ok b)
  | .loop c a => .loop (c.fold ok) (Sm.folds ok a)
def Sm.folds (ok : Ex → Bool) : List Sm → List Sm
  | [] => []
  | x :: r => x.fold ok :: Sm.folds ok r
end
section
variable {Φ : EV → St → Prop} {st : St} {a b c e : Val}
end
section
variable {P : Prog} {lim k : Nat} {room : Int} {bw : List (List Int)} {procs : List Val} {s : Shape}
theorem Ex.sh (e : Ex) : ∃ z l, e.v = .tup (.str z :: l) := by cases e <;> exact ⟨_, _, rfl⟩
theorem Sm.sh (x : Sm) : ∃ l, x.v = .tup l := by cases x <;> exact ⟨_, by simp only [Sm.v]; rfl⟩
end
end IA

set_option Elab.async false
set_option linter.all false
set_option maxRecDepth 100000
set_option maxHeartbeats 4000000
/-! ## Drawn components (own text) -/
namespace IA
set_option hygiene false in
local macro_rules | `(tactic| fail "st") => `(tactic| first | simp only [hp, r_c, r_var, r_op, r_tup, r_lst, r_ix, r_bi, r_bm, r_call, b_nil, b_cons, v_nil, v_cons, i_seq, i_rng, g_name, g_nameN, g_sub, s_nil, s_cons, x_asg, x_ret, x_ex, x_for, r_comp, o_addI, va_v, va_o, kp_v, kp_n, li_o, so_o, li_r, sc_l, se_n, se_o, bi_tuple, bi_append, ix_t, st_set, su_i, put_r, put_o, hp_get, hp_set, fl_n, fl_r, ou_r, ca_G, re_t, fo_x, co_x, ki_n, u_kOp1, u_kOp2, u_kTup, u_kLst, u_kIx1, u_kBi, u_kBm, u_kBm1, u_kB1, u_kB2, u_kV1, u_kV2, u_kV3, kRng, u_kSub1, u_kSub2, u_kNx, u_kAsg, u_kRt, u_kRetS, u_kEx, u_kI1, u_kJ2, u_kJ3, u_kTp, u_kAp, u_kPut, u_kPut1, wipe, ixl_5, kO_some, true_and, List.length_cons, List.length_nil, List.getElem?_cons_zero, List.getElem?_cons_succ, List.set_cons_zero, List.set_cons_succ, Nat.reduceAdd, szL, Nat.reduceLeDiff, List.nil_append, List.cons_append, recvOk, Option.isSome_some, Int.reduceToNat, List.length_set, List.length_map] | simp only [r_c, r_var, r_op, r_tup, r_lst, r_ix, r_bi, r_bm, r_call, b_nil, b_cons, v_nil, v_cons, i_seq, i_rng, g_name, g_nameN, g_sub, s_nil, s_cons, x_asg, x_ret, x_ex, x_for, r_comp, o_addI, va_v, va_o, kp_v, kp_n, li_o, so_o, li_r, sc_l, se_n, se_o, bi_tuple, bi_append, ix_t, st_set, su_i, put_r, put_o, hp_get, hp_set, fl_n, fl_r, ou_r, ca_G, re_t, fo_x, co_x, ki_n, u_kOp1, u_kOp2, u_kTup, u_kLst, u_kIx1, u_kBi, u_kBm, u_kBm1, u_kB1, u_kB2, u_kV1, u_kV2, u_kV3, kRng, u_kSub1, u_kSub2, u_kNx, u_kAsg, u_kRt, u_kRetS, u_kEx, u_kI1, u_kJ2, u_kJ3, u_kTp, u_kAp, u_kPut, u_kPut1, wipe, ixl_5, kO_some, true_and, List.length_cons, List.length_nil, List.getElem?_cons_zero, List.getElem?_cons_succ, List.set_cons_zero, List.set_cons_succ, Nat.reduceAdd, szL, Nat.reduceLeDiff, List.nil_append, List.cons_append, recvOk, Option.isSome_some, Int.reduceToNat, List.length_set, List.length_map])
set_option hygiene false in
local macro_rules | `(tactic| fail "qs") => `(tactic| first
  | with_reducible refine if_s (fun hq => ?_) (fun hq => ?_)
  | with_reducible refine at_s (fun hq => ?_) (fun hq => ?_)
  | with_reducible refine ot_s (fun hq => ?_) (fun hq => ?_)
  | with_reducible refine it_s (fun hq => ?_) (fun hq => ?_)
  | with_reducible refine ad_s (fun hq => ?_) (fun hq => ?_)
  | with_reducible refine or_s (fun hq => ?_) (fun hq => ?_)
  | with_reducible refine ch_s (fun hq => ?_) (fun hq => ?_)
  | with_reducible refine c1_s (fun hq => ?_) (fun hq => ?_))
local macro_rules | `(tactic| fail "sd") => `(tactic| first
  | assumption
  | omega
  | exact smR (by omega) (by omega)
  | exact bdI (by omega) (by omega)
  | exact And.intro (bdI (by omega) (by omega)) (bdI (by omega) (by omega))
  | exact smL (by omega) (by omega)
  | decide)
set_option hygiene false in
local macro_rules | `(tactic| fail "g1") => `(tactic| first
  | fail "st"
  | (fail "qs" <;> (try simp only [decide_eq_true_eq, decide_eq_false_iff_not, Bool.not_eq_true', Bool.not_eq_false', beq_iff_eq, bne_iff_ne, ne_eq, Int.not_le, Int.not_lt] at hq))
  | ((with_reducible apply And.intro); (case left => fail "sd"))
  | fail "none")
set_option hygiene false in
local macro_rules | `(tactic| fail "go") => `(tactic| repeat' fail "g1")
set_option hygiene false in
local macro_rules | `(tactic| fail "ha") => `(tactic| first
  | assumption
  | exact HasA.set (by assumption)
  | fail "none")
set_option hygiene false in
local macro_rules | `(tactic| fail "dr") => `(tactic| first
  | (with_reducible refine draw_A hD (by fail "ha") (by omega) (by omega) ?_; intro v c hc hv0 hv1)
  | (with_reducible refine spend_A hS (by fail "ha") ?_; intro b c hc)
  | (with_reducible refine number_A hD hN (by fail "ha") ?_; intro v c hc hv0 hv1)
  | (with_reducible refine few_A hD hF (by fail "ha") (by omega) (by omega) ?_; intro v c hc hv0 hv1)
  | fail "none")
set_option hygiene false in
local macro_rules | `(tactic| fail "gd") => `(tactic| repeat' (first | fail "g1" | fail "dr" | fail "none"))

set_option hygiene false in
local macro_rules | `(tactic| fail "ob") => `(tactic| simp only [Option.map_some, List.map_append, List.map_cons, List.map_nil, String.reduceEq, reduceIte, List.mem_cons, List.not_mem_nil, or_false, true_and, kO_some, List.length_cons, List.length_nil, Nat.reduceAdd, Nat.reduceLT, eq_self, Bool.true_and])
set_option hygiene false in
local macro_rules | `(tactic| fail "ma") => `(tactic| first | (rw [at_e ha1]) | (rw [at_e ha2]) | (rw [at_e ha3]) | (rw [at_e ha4]) | (rw [ati_e ha1]) | (rw [ati_e ha2]) | (rw [ati_e ha3]) | (rw [ati_e ha4]) | (rw [at_n (by (first | omega | (rw [List.length_map]; omega)))]; try rw [List.getElem_map]) | (rw [ix_nat (by (first | omega | (simp only [List.length_map]; omega)))]))
local macro_rules | `(tactic| fail "sx") => `(tactic| first | omega | (simp only []; omega))
local macro_rules | `(tactic| fail "rd") => `(tactic| repeat' (first | rw [hp_get] | (rw [hs_ne (by fail "sx")]) | (rw [hn_get2 (by first | rfl | fail "sx")]) | (rw [hn_ne (by fail "sx")]) | rw [hb_c]))
set_option hygiene false in
local macro_rules | `(tactic| fail "oo") => `(tactic| repeat' (first | fail "st" | simp only [hx] | simp only [hy] | simp only [hz] | simp only [hu] | simp only [hv] | simp only [hw] | fail "ob" | (with_reducible refine hw1 _ _ _ ?_) | (with_reducible refine hw2 _ _ _ ?_) | (with_reducible refine hw3 _ _ _ ?_)  | (rw [hs_ne (by omega)]) | (rw [hn_ne (by (first | omega | (simp only []; omega)))]) | fail "ma" | fail "dr" | fail "g1" | fail "none"))
set_option hygiene false in
local macro_rules | `(tactic| fail "on") => `(tactic| repeat' (first | fail "st" | simp only [hx] | simp only [hy] | simp only [hz] | simp only [hu] | simp only [hv] | simp only [hw] | fail "ob" | (with_reducible refine hw1 _ _ _ ?_) | (with_reducible refine hw2 _ _ _ ?_) | (with_reducible refine hw3 _ _ _ ?_)  | (rw [hs_ne (by omega)]) | (rw [hn_ne (by (first | omega | (simp only []; omega)))]) | fail "ma" | fail "dr" | ((with_reducible apply And.intro); (case left => fail "sd")) | fail "none"))

section
variable {P : Prog} {lim k : Nat} {h : AHeap} {p : Nat} {ns : List Int} {σ : List (Option SV)} {a j : Nat} {Φ : EV → St → Prop}
end
abbrev Pr := Int × List Sm
def Pr.v (p : Pr) : Val := .tup [.int p.1, .tup (Sm.vs p.2)]
section
variable {P : Prog} {lim k : Nat} {h : AHeap} {p : Nat} {ns : List Int} {Φ : Val → AHeap → Prop} {Ψ : String → Val → AHeap → Prop}
end
end IA

set_option Elab.async false
set_option linter.all false
set_option maxRecDepth 100000
set_option maxHeartbeats 4000000
/-! ## Components as values: good, shallow; fold_component; == of components (own text) -/
namespace IA
set_option hygiene false in
local macro_rules | `(tactic| fail "st") => `(tactic| first | simp only [hp, r_c, r_var, r_op, r_and, r_tup, r_fld, r_bi, r_isi, r_call, r_mk, t_c, b_nil, b_cons, v_nil, v_cons, i_seq, g_name, g_nameN, g_tup, g_fld, gs_nil, gs_cons, s_nil, s_cons, x_asg, x_ret, r_comp, o_eqI, tr_b, va_v, va_o, kp_v, kp_o, ko_o, se_t, se_l, se_n, pk_ob, is_1, bi_tuple, st_set, sq_t, fl_n, fl_r, ou_n, ou_r, ca_G, re_t, co_x, kj_t, u_kOp1, u_kOp2, and_t, u_kTup, u_kFld, u_kBi, u_kVl, u_kBl, u_kB1, u_kB2, u_kV1, u_kV2, u_kV3, u_kFst1, u_kFst2, u_kGs, u_kNx, u_kAsg, u_kRt, u_kRetS, u_kJ0, u_kJ2, u_kJ3, u_kIs1, u_kTp, wipe, kO_some, true_and, and_true, List.length_cons, List.length_nil, List.getElem?_cons_zero, List.getElem?_cons_succ, List.set_cons_zero, List.set_cons_succ, Nat.reduceAdd, szL, Nat.reduceLeDiff, ofT, List.nil_append, List.cons_append, decide_true, Int.reduceToNat, List.length_map] | simp only [r_c, r_var, r_op, r_and, r_tup, r_fld, r_bi, r_isi, r_call, r_mk, t_c, b_nil, b_cons, v_nil, v_cons, i_seq, g_name, g_nameN, g_tup, g_fld, gs_nil, gs_cons, s_nil, s_cons, x_asg, x_ret, r_comp, o_eqI, tr_b, va_v, va_o, kp_v, kp_o, ko_o, se_t, se_l, se_n, pk_ob, is_1, bi_tuple, st_set, sq_t, fl_n, fl_r, ou_n, ou_r, ca_G, re_t, co_x, kj_t, u_kOp1, u_kOp2, and_t, u_kTup, u_kFld, u_kBi, u_kVl, u_kBl, u_kB1, u_kB2, u_kV1, u_kV2, u_kV3, u_kFst1, u_kFst2, u_kGs, u_kNx, u_kAsg, u_kRt, u_kRetS, u_kJ0, u_kJ2, u_kJ3, u_kIs1, u_kTp, wipe, kO_some, true_and, and_true, List.length_cons, List.length_nil, List.getElem?_cons_zero, List.getElem?_cons_succ, List.set_cons_zero, List.set_cons_succ, Nat.reduceAdd, szL, Nat.reduceLeDiff, ofT, List.nil_append, List.cons_append, decide_true, Int.reduceToNat, List.length_map])
set_option hygiene false in
local macro_rules | `(tactic| fail "qs") => `(tactic| first
  | with_reducible refine if_s (fun hq => ?_) (fun hq => ?_)
  | with_reducible refine at_s (fun hq => ?_) (fun hq => ?_)
  | with_reducible refine ot_s (fun hq => ?_) (fun hq => ?_)
  | with_reducible refine it_s (fun hq => ?_) (fun hq => ?_)
  | with_reducible refine ad_s (fun hq => ?_) (fun hq => ?_)
  | with_reducible refine or_s (fun hq => ?_) (fun hq => ?_)
  | with_reducible refine ch_s (fun hq => ?_) (fun hq => ?_)
  | with_reducible refine c1_s (fun hq => ?_) (fun hq => ?_))
local macro_rules | `(tactic| fail "sd") => `(tactic| first
  | assumption
  | omega
  | exact smR (by omega) (by omega)
  | exact bdI (by omega) (by omega)
  | exact And.intro (bdI (by omega) (by omega)) (bdI (by omega) (by omega))
  | exact smL (by omega) (by omega)
  | decide)
set_option hygiene false in
local macro_rules | `(tactic| fail "g1") => `(tactic| first
  | fail "st"
  | (fail "qs" <;> (try simp only [decide_eq_true_eq, decide_eq_false_iff_not, Bool.not_eq_true', Bool.not_eq_false', beq_iff_eq, bne_iff_ne, ne_eq, Int.not_le, Int.not_lt] at hq))
  | ((with_reducible apply And.intro); (case left => fail "sd"))
  | fail "none")
set_option hygiene false in
local macro_rules | `(tactic| fail "go") => `(tactic| repeat' fail "g1")
set_option hygiene false in
local macro_rules | `(tactic| fail "ha") => `(tactic| first
  | assumption
  | exact HasA.set (by assumption)
  | fail "none")
set_option hygiene false in
local macro_rules | `(tactic| fail "dr") => `(tactic| first
  | (with_reducible refine draw_A hD (by fail "ha") (by omega) (by omega) ?_; intro v c hc hv0 hv1)
  | (with_reducible refine spend_A hS (by fail "ha") ?_; intro b c hc)
  | (with_reducible refine number_A hD hN (by fail "ha") ?_; intro v c hc hv0 hv1)
  | (with_reducible refine few_A hD hF (by fail "ha") (by omega) (by omega) ?_; intro v c hc hv0 hv1)
  | fail "none")
set_option hygiene false in
local macro_rules | `(tactic| fail "gd") => `(tactic| repeat' (first | fail "g1" | fail "dr" | fail "none"))

set_option hygiene false in
local macro_rules | `(tactic| fail "ob") => `(tactic| simp only [fd_o, fs_r, cs_i, pf_n, pf_c, hn_get, hn_set, mk_G, Option.map_some, List.map_append, List.map_cons, List.map_nil, Row.v, String.reduceEq, reduceIte, List.mem_cons, List.not_mem_nil, or_false, true_or, or_true, true_and, and_true, kO_some, u_kVl, List.length_cons, List.length_nil, Nat.reduceAdd, Nat.reduceLT, eq_self, decide_true, Bool.true_and, look])
set_option hygiene false in
local macro_rules | `(tactic| fail "ma") => `(tactic| first | (rw [at_e ha1]) | (rw [at_e ha2]) | (rw [at_e ha3]) | (rw [at_e ha4]) | (rw [ati_e ha1]) | (rw [ati_e ha2]) | (rw [ati_e ha3]) | (rw [ati_e ha4]) | (rw [at_n (by (first | omega | (rw [List.length_map]; omega)))]; try rw [List.getElem_map]) | (rw [ix_nat (by (first | omega | (simp only [List.length_map]; omega)))]))
local macro_rules | `(tactic| fail "sx") => `(tactic| first | omega | (simp only []; omega))
local macro_rules | `(tactic| fail "rd") => `(tactic| repeat' (first | rw [hp_get] | (rw [hs_ne (by fail "sx")]) | (rw [hn_get2 (by first | rfl | fail "sx")]) | (rw [hn_ne (by fail "sx")]) | rw [hb_c]))
set_option hygiene false in
local macro_rules | `(tactic| fail "oo") => `(tactic| repeat' (first | fail "st" | simp only [hx] | simp only [hy] | simp only [hz] | simp only [hu] | simp only [hv] | simp only [hw] | fail "ob" | (with_reducible refine hw1 _ _ _ ?_) | (with_reducible refine hw2 _ _ _ ?_) | (with_reducible refine hw3 _ _ _ ?_)  | (rw [hs_ne (by omega)]) | (rw [hn_ne (by (first | omega | (simp only []; omega)))]) | fail "ma" | fail "dr" | fail "g1" | fail "none"))
set_option hygiene false in
local macro_rules | `(tactic| fail "on") => `(tactic| repeat' (first | fail "st" | simp only [hx] | simp only [hy] | simp only [hz] | simp only [hu] | simp only [hv] | simp only [hw] | fail "ob" | (with_reducible refine hw1 _ _ _ ?_) | (with_reducible refine hw2 _ _ _ ?_) | (with_reducible refine hw3 _ _ _ ?_)  | (rw [hs_ne (by omega)]) | (rw [hn_ne (by (first | omega | (simp only []; omega)))]) | fail "ma" | fail "dr" | ((with_reducible apply And.intro); (case left => fail "sd")) | fail "none"))

mutual
theorem Sm.dep_ok {s : Shape} : ∀ {x : Sm} {d : Nat}, x.ok s d → dep x.v ≤ 2 * d + 6
  | .ret e, d, h => by simp only [Sm.ok] at h; have := Ex.dep_ok h; simp only [Sm.v, dep, depL]; omega
  | .set l e, d, h => by simp only [Sm.ok] at h; have := Ex.dep_ok h.2.2; simp only [Sm.v, dep, depL]; omega
  | .put b i e, d, h => by simp only [Sm.ok] at h; have h1 := Ex.dep_ok h.2.2.1; have h2 := Ex.dep_ok h.2.2.2; simp only [Sm.v, dep, depL]; omega
  | .call l t e, d, h => by simp only [Sm.ok] at h; have := Ex.dep_ok h.2.2.2.2; simp only [Sm.v, dep, depL]; omega
  | .use l t e, d, h => by simp only [Sm.ok] at h; have := Ex.dep_ok h.2.2.2.2; simp only [Sm.v, dep, depL]; omega
  | .ifs c a b, d, h => by
    simp only [Sm.ok] at h
    have h1 := Ex.dep_ok h.2.1
    have h2 := Sm.deps_ok h.2.2.1
    have h3 := Sm.deps_ok h.2.2.2.1
    simp only [Sm.v, dep, depL]
    omega
  | .loop c a, d, h => by
    simp only [Sm.ok] at h
    have h1 := Ex.dep_ok h.2.1
    have h2 := Sm.deps_ok h.2.2.1
    simp only [Sm.v, dep, depL]
    omega
theorem Sm.deps_ok {s : Shape} : ∀ {l : List Sm} {d : Nat}, Sm.oks s d l → depL (Sm.vs l) ≤ 2 * d + 6
  | [], d, h => by simp [Sm.vs, depL]
  | x :: r, d, h => by
    simp only [Sm.oks] at h
    have h1 := Sm.dep_ok h.1
    have h2 := Sm.deps_ok h.2
    simp only [Sm.vs, depL]
    omega
end
section
variable {P : Prog} {lim k : Nat} {h : AHeap} {σ : List (Option SV)} {room : Int} {bw : List (List Int)} {ps : List Pr}
theorem eqo_step {C : String} {fs gs : List (String × Val)} {Φ : EV → St → Prop} {Ψ : XK} (q : WR P lim k (C ++ ".__eq__") [.obj C fs, .obj C gs] h (fun v h' => ∃ b, v = .bl b ∧ Φ (.val (.bl b)) ⟨σ, h'⟩) (fun _ _ _ => False)) : kEqo2 (G P lim k) Φ Ψ C (.val (.obj C fs)) (.val (.obj C gs)) ⟨σ, h⟩ := by
  unfold kEqo2
  show W (if C = C ∧ C = C then lift ⟨σ, h⟩ (eqR ((G P lim k).call (C ++ ".__eq__") [.obj C fs, .obj C gs] h)) else .stuck) Φ Ψ
  rw [if_pos ⟨rfl, rfl⟩]
  have q2 : W ((G P lim k).call (C ++ ".__eq__") [.obj C fs, .obj C gs] h) (fun v h' => ∃ b, v = .bl b ∧ Φ (.val (.bl b)) ⟨σ, h'⟩) (fun _ _ _ => False) := q
  cases e : (G P lim k).call (C ++ ".__eq__") [.obj C fs, .obj C gs] h with
  | ok v h' =>
    rw [e] at q2
    obtain ⟨b, rfl, q3⟩ := q2
    exact q3
  | exc D v h' => rw [e] at q2; exact q2.elim
  | stuck => rw [e] at q2; exact q2.elim
end
end IA

set_option Elab.async false
set_option linter.all false
set_option maxRecDepth 100000
set_option maxHeartbeats 4000000
/-! ## Comparing interfaces and rows (law k02; own text) -/
namespace IA
set_option hygiene false in
local macro_rules | `(tactic| fail "st") => `(tactic| first | simp only [hp, r_var, r_op, r_and, r_fld, r_isi, s_cons, x_ret, va_v, kp_v, pk_ob, is_1, fl_r, ou_r, u_kOp1, u_kOp2, and_t, and_f, u_kFld, u_kVl, u_kBl, u_kRt, u_kRetS, u_kIs1, kO_some, true_and, and_true, List.length_cons, List.length_nil, List.getElem?_cons_zero, List.getElem?_cons_succ, Nat.reduceAdd, Nat.reduceLeDiff, ofT, List.nil_append, List.cons_append, decide_true, decide_false, if_pos, Int.reduceToNat, List.length_map] | simp only [r_var, r_op, r_and, r_fld, r_isi, s_cons, x_ret, va_v, kp_v, pk_ob, is_1, fl_r, ou_r, u_kOp1, u_kOp2, and_t, and_f, u_kFld, u_kVl, u_kBl, u_kRt, u_kRetS, u_kIs1, kO_some, true_and, and_true, List.length_cons, List.length_nil, List.getElem?_cons_zero, List.getElem?_cons_succ, Nat.reduceAdd, Nat.reduceLeDiff, ofT, List.nil_append, List.cons_append, decide_true, decide_false, if_pos, Int.reduceToNat, List.length_map])
set_option hygiene false in
local macro_rules | `(tactic| fail "qs") => `(tactic| first
  | with_reducible refine if_s (fun hq => ?_) (fun hq => ?_)
  | with_reducible refine at_s (fun hq => ?_) (fun hq => ?_)
  | with_reducible refine ot_s (fun hq => ?_) (fun hq => ?_)
  | with_reducible refine it_s (fun hq => ?_) (fun hq => ?_)
  | with_reducible refine ad_s (fun hq => ?_) (fun hq => ?_)
  | with_reducible refine or_s (fun hq => ?_) (fun hq => ?_)
  | with_reducible refine ch_s (fun hq => ?_) (fun hq => ?_)
  | with_reducible refine c1_s (fun hq => ?_) (fun hq => ?_))
local macro_rules | `(tactic| fail "sd") => `(tactic| first
  | assumption
  | omega
  | exact smR (by omega) (by omega)
  | exact bdI (by omega) (by omega)
  | exact And.intro (bdI (by omega) (by omega)) (bdI (by omega) (by omega))
  | exact smL (by omega) (by omega)
  | decide)
set_option hygiene false in
local macro_rules | `(tactic| fail "g1") => `(tactic| first
  | fail "st"
  | (fail "qs" <;> (try simp only [decide_eq_true_eq, decide_eq_false_iff_not, Bool.not_eq_true', Bool.not_eq_false', beq_iff_eq, bne_iff_ne, ne_eq, Int.not_le, Int.not_lt] at hq))
  | ((with_reducible apply And.intro); (case left => fail "sd"))
  | fail "none")
set_option hygiene false in
local macro_rules | `(tactic| fail "go") => `(tactic| repeat' fail "g1")
set_option hygiene false in
local macro_rules | `(tactic| fail "ha") => `(tactic| first
  | assumption
  | exact HasA.set (by assumption)
  | fail "none")
set_option hygiene false in
local macro_rules | `(tactic| fail "dr") => `(tactic| first
  | (with_reducible refine draw_A hD (by fail "ha") (by omega) (by omega) ?_; intro v c hc hv0 hv1)
  | (with_reducible refine spend_A hS (by fail "ha") ?_; intro b c hc)
  | (with_reducible refine number_A hD hN (by fail "ha") ?_; intro v c hc hv0 hv1)
  | (with_reducible refine few_A hD hF (by fail "ha") (by omega) (by omega) ?_; intro v c hc hv0 hv1)
  | fail "none")
set_option hygiene false in
local macro_rules | `(tactic| fail "gd") => `(tactic| repeat' (first | fail "g1" | fail "dr" | fail "none"))

set_option hygiene false in
local macro_rules | `(tactic| fail "ob") => `(tactic| simp only [fd_o, Option.map_some, List.map_cons, List.map_nil, Row.v, String.reduceEq, reduceIte, List.mem_cons, List.not_mem_nil, or_false, true_or, or_true, true_and, and_true, kO_some, u_kVl, List.length_cons, List.length_nil, Nat.reduceAdd, Nat.reduceLT, eq_self, decide_true, Bool.true_and, look])
set_option hygiene false in
local macro_rules | `(tactic| fail "ma") => `(tactic| first | (rw [at_e ha1]) | (rw [at_e ha2]) | (rw [at_e ha3]) | (rw [at_e ha4]) | (rw [ati_e ha1]) | (rw [ati_e ha2]) | (rw [ati_e ha3]) | (rw [ati_e ha4]) | (rw [at_n (by (first | omega | (rw [List.length_map]; omega)))]; try rw [List.getElem_map]) | (rw [ix_nat (by (first | omega | (simp only [List.length_map]; omega)))]))
local macro_rules | `(tactic| fail "sx") => `(tactic| first | omega | (simp only []; omega))
local macro_rules | `(tactic| fail "rd") => `(tactic| repeat' (first | rw [hp_get] | (rw [hs_ne (by fail "sx")]) | (rw [hn_get2 (by first | rfl | fail "sx")]) | (rw [hn_ne (by fail "sx")]) | rw [hb_c]))
set_option hygiene false in
local macro_rules | `(tactic| fail "oo") => `(tactic| repeat' (first | fail "st" | simp only [hx] | simp only [hy] | simp only [hz] | simp only [hu] | simp only [hv] | simp only [hw] | fail "ob" | (with_reducible refine hw1 _ _ _ ?_) | (with_reducible refine hw2 _ _ _ ?_) | (with_reducible refine hw3 _ _ _ ?_)  | (rw [hs_ne (by omega)]) | (rw [hn_ne (by (first | omega | (simp only []; omega)))]) | fail "ma" | fail "dr" | fail "g1" | fail "none"))
set_option hygiene false in
local macro_rules | `(tactic| fail "on") => `(tactic| repeat' (first | fail "st" | simp only [hx] | simp only [hy] | simp only [hz] | simp only [hu] | simp only [hv] | simp only [hw] | fail "ob" | (with_reducible refine hw1 _ _ _ ?_) | (with_reducible refine hw2 _ _ _ ?_) | (with_reducible refine hw3 _ _ _ ?_)  | (rw [hs_ne (by omega)]) | (rw [hn_ne (by (first | omega | (simp only []; omega)))]) | fail "ma" | fail "dr" | ((with_reducible apply And.intro); (case left => fail "sd")) | fail "none"))

theorem veqL_map {α : Type} [DecidableEq α] {f : α → Val} (hf : ∀ a b, veq (f a) (f b) = decide (a = b)) : ∀ l m : List α, veqL (l.map f) (m.map f) = decide (l = m)
  | [], [] => rfl
  | [], b :: m => by simp [veqL]
  | a :: l, [] => by simp [veqL]
  | a :: l, b :: m => by
    simp only [List.map_cons, veqL, hf, veqL_map hf l m]
    by_cases h1 : a = b <;> by_cases h2 : l = m <;> simp [h1, h2]
theorem int_veq (a b : Int) : veq (.int a) (.int b) = decide (a = b) := by simp [veq]
theorem pair_veq (a b : Int × Int) : veq (pairV a) (pairV b) = decide (a = b) := by
  obtain ⟨a1, a2⟩ := a
  obtain ⟨b1, b2⟩ := b
  simp only [pairV, veq, veqL, Bool.and_true]
  by_cases h1 : a1 = b1 <;> by_cases h2 : a2 = b2 <;> simp [h1, h2]
theorem imp_veq (a b : List (Int × Int)) : veq (.tup (a.map pairV)) (.tup (b.map pairV)) = decide (a = b) := by
  simp only [veq]
  exact veqL_map pair_veq a b
theorem row_veq (a b : Row) : veq (Row.v a) (Row.v b) = decide (a = b) := by
  obtain ⟨a1, a2⟩ := a
  obtain ⟨b1, b2⟩ := b
  simp only [Row.v, veq, veqL, Bool.and_true, veqL_map pair_veq]
  by_cases h1 : a1 = b1 <;> by_cases h2 : a2 = b2 <;> simp [h1, h2]
theorem good_all {α : Type} {f : α → Val} (h : ∀ a, good (f a) = true) : ∀ l : List α, goodL (l.map f) = true
  | [] => rfl
  | a :: l => by simp only [List.map_cons, goodL, h, good_all h l, Bool.and_self]
theorem dep_all {α : Type} {f : α → Val} {n : Nat} (h : ∀ a, dep (f a) ≤ n) : ∀ l : List α, depL (l.map f) ≤ n
  | [] => Nat.zero_le _
  | a :: l => by
    have := dep_all h l
    have := h a
    simp only [List.map_cons, depL]
    omega
theorem eqV_map {α : Type} [DecidableEq α] {f : α → Val} (hf : ∀ a b, veq (f a) (f b) = decide (a = b)) (hg : ∀ a, good (f a) = true) (hd : ∀ a, dep (f a) ≤ 50) (l m : List α) : eqV (.tup (l.map f)) (.tup (m.map f)) = some (decide (l = m)) := by
  have g1 : ∀ l : List α, good (.tup (l.map f)) = true := fun l => good_all hg l
  have d1 : ∀ l : List α, dep (.tup (l.map f)) ≤ 60 := fun l => by
    have := dep_all hd l
    simp only [dep]
    omega
  have v1 : veq (.tup (l.map f)) (.tup (m.map f)) = decide (l = m) := by
    simp only [veq]
    exact veqL_map hf l m
  show (if good (.tup (l.map f)) && good (.tup (m.map f)) && decide (dep (.tup (l.map f)) ≤ 60) && decide (dep (.tup (m.map f)) ≤ 60) then some (veq (.tup (l.map f)) (.tup (m.map f))) else none) = _
  rw [g1, g1, decide_eq_true (d1 l), decide_eq_true (d1 m), v1]
  rfl
theorem eqV_lst {α : Type} [DecidableEq α] {f : α → Val} (hf : ∀ a b, veq (f a) (f b) = decide (a = b)) (hg : ∀ a, good (f a) = true) (hd : ∀ a, dep (f a) ≤ 50) (l m : List α) : eqV (.lst (l.map f)) (.lst (m.map f)) = some (decide (l = m)) := by
  have g1 : ∀ l : List α, good (.lst (l.map f)) = true := fun l => good_all hg l
  have d1 : ∀ l : List α, dep (.lst (l.map f)) ≤ 60 := fun l => by
    have := dep_all hd l
    simp only [dep]
    omega
  have v1 : veq (.lst (l.map f)) (.lst (m.map f)) = decide (l = m) := by
    simp only [veq]
    exact veqL_map hf l m
  show (if good (.lst (l.map f)) && good (.lst (m.map f)) && decide (dep (.lst (l.map f)) ≤ 60) && decide (dep (.lst (m.map f)) ≤ 60) then some (veq (.lst (l.map f)) (.lst (m.map f))) else none) = _
  rw [g1, g1, decide_eq_true (d1 l), decide_eq_true (d1 m), v1]
  rfl
theorem pair_dep (q : Int × Int) : dep (pairV q) ≤ 2 := by simp [pairV, dep, depL]
theorem pair_good (q : Int × Int) : good (pairV q) = true := rfl
theorem row_dep (r : Row) : dep (Row.v r) ≤ 50 := by
  have := dep_all pair_dep r.2
  simp only [Row.v, dep, depL]
  omega
theorem row_good (r : Row) : good (Row.v r) = true := by
  simp only [Row.v, good, goodL, good_all pair_good, Bool.and_self]
theorem eq_rows (l m : List Row) : eqV (.lst (l.map Row.v)) (.lst (m.map Row.v)) = some (decide (l = m)) := eqV_lst row_veq row_good row_dep l m
theorem eq_exp (l m : List Row) : eqV (expV l) (expV m) = some (decide (l.map Prod.fst = m.map Prod.fst)) := by
  have e : ∀ l : List Row, expV l = .tup ((l.map Prod.fst).map Val.int) := fun l => by unfold expV; rw [List.map_map]; rfl
  rw [e, e]
  exact eqV_map int_veq (fun _ => rfl) (fun _ => by simp [dep]) _ _
theorem eq_imp (l m : List Row) : eqV (impV l) (impV m) = some (decide (l.map Prod.snd = m.map Prod.snd)) := by
  have e : ∀ l : List Row, impV l = .tup ((l.map Prod.snd).map fun x => .tup (x.map pairV)) := fun l => by unfold impV; rw [List.map_map]; rfl
  rw [e, e]
  refine eqV_map imp_veq (fun a => good_all pair_good a) (fun a => ?_) _ _
  have := dep_all pair_dep a
  simp only [dep]
  omega
theorem rows_ext {l m : List Row} : l = m ↔ l.map Prod.fst = m.map Prod.fst ∧ l.map Prod.snd = m.map Prod.snd := by
  refine ⟨fun e => by rw [e]; exact ⟨rfl, rfl⟩, fun ⟨e1, e2⟩ => ?_⟩
  have hl : l.length = m.length := by have := congrArg List.length e1; simpa using this
  refine List.ext_getElem hl fun i h1 h2 => ?_
  have a := congrArg (fun x : List Int => x[i]?) e1
  have b := congrArg (fun x : List (List (Int × Int)) => x[i]?) e2
  simp only [List.getElem?_map, List.getElem?_eq_getElem h1, List.getElem?_eq_getElem h2, Option.map_some, Option.some.injEq] at a b
  exact Prod.ext a b
section
variable {P : Prog} {lim k : Nat} {h : AHeap} {p : Nat} {Φ : Val → AHeap → Prop} {Ψ : String → Val → AHeap → Prop}
theorem ifc_eq_spec (hE : P ("Interface" ++ ".__eq__") = some IX.b_Interface_eqq) (l m : List Row) (hΦ : Φ (.bl (decide (l = m))) h) : WR P lim (k + 1) ("Interface" ++ ".__eq__") [ifcV l, ifcV m] h Φ Ψ := by
  rw [r_enter hE rfl]
  unfold IX.b_Interface_eqq start
  simp only [List.map_cons, List.map_nil, List.cons_append, List.nil_append, Nat.reduceSub, List.replicate]
  have hu : ∀ (st : St) (Φ : EV → St → Prop) (Ψ : XK), W2 .eq (.val (expV l)) (.val (expV m)) st Φ Ψ = Φ (.val (.bl (decide (l.map Prod.fst = m.map Prod.fst)))) st := fun st Φ Ψ => by
    have e := eq_exp l m
    unfold expV at *
    rw [o_eq, pk_t, pk_t, kO_some, kO_some, e, kO_some]
  have hv : ∀ (st : St) (Φ : EV → St → Prop) (Ψ : XK), W2 .eq (.val (impV l)) (.val (impV m)) st Φ Ψ = Φ (.val (.bl (decide (l.map Prod.snd = m.map Prod.snd)))) st := fun st Φ Ψ => by
    have e := eq_imp l m
    unfold impV at *
    rw [o_eq, pk_t, pk_t, kO_some, kO_some, e, kO_some]
  unfold ifcV ifcF
  fail "on"
  cases hb : decide (l.map Prod.fst = m.map Prod.fst) with
  | false =>
    fail "on"
    rw [show false = decide (l = m) from (decide_eq_false fun e => (of_decide_eq_false hb) (by rw [e])).symm]
    exact hΦ
  | true =>
    fail "on"
    rw [show decide (l.map Prod.snd = m.map Prod.snd) = decide (l = m) from decide_eq_decide.mpr ⟨fun e => rows_ext.mpr ⟨of_decide_eq_true hb, e⟩, fun e => by rw [e]⟩]
    exact hΦ
/-! rows that are made of valid ones -/
structure PairOk (rs : List Row) (i : Nat) (q : Int × Int) : Prop where
  ne : q.1 ≠ i
  c0 : 0 ≤ q.1
  c1 : q.1 < rs.length
  p0 : 0 ≤ q.2
  p1 : ∀ r, rs[q.1.toNat]? = some r → q.2 < r.1
structure Imps (rs : List Row) (i : Nat) (l : List (Int × Int)) : Prop where
  nd : l.Nodup
  q : ∀ q, q ∈ l → PairOk rs i q
  l : l.length ≤ 8
theorem FitR.imps {rs : List Row} {i : Nat} {r : Row} (f : FitR rs i r) : Imps rs i r.2 := by
  refine ⟨?_, fun q hq => ?_, f.l⟩
  · rw [List.nodup_iff_pairwise_ne, List.pairwise_iff_getElem]
    intro a b ha hb hab e
    have g := f.q b _ (List.getElem?_eq_getElem hb)
    refine g.nm ?_
    rw [← e]
    exact List.mem_take_iff_getElem.mpr ⟨a, by omega, rfl⟩
  · obtain ⟨m, hm, rfl⟩ := List.mem_iff_getElem.mp hq
    have g := f.q m _ (List.getElem?_eq_getElem hm)
    exact ⟨g.ne, g.c0, g.c1, g.p0, g.p1⟩
theorem Imps.fit {rs : List Row} {i : Nat} {e : Int} {l : List (Int × Int)} (I : Imps rs i l) (h0 : 1 ≤ e) (h1 : e ≤ 8) : FitR rs i (e, l) := by
  refine ⟨h0, h1, I.l, fun m q hq => ?_⟩
  have p := I.q q (List.mem_of_getElem? hq)
  exact ⟨p.ne, p.c0, p.c1, nodup_take I.nd hq, p.p0, p.p1⟩
theorem PairOk.set {rs : List Row} {i j : Nat} {q : Int × Int} {e : Int} {l : List (Int × Int)} {r : Row} (p : PairOk rs i q) (hr : rs[j]? = some r) (he : r.1 ≤ e) : PairOk (rs.set j (e, l)) i q := by
  refine ⟨p.ne, p.c0, by rw [List.length_set]; exact p.c1, p.p0, fun r2 h2 => ?_⟩
  rw [List.getElem?_set] at h2
  split at h2
  · rename_i ej
    split at h2
    · cases h2
      have := p.p1 r (by rw [← ej]; exact hr)
      simp only
      omega
    · cases h2
  · exact p.p1 r2 h2
theorem Good.set {rs : List Row} (g : Good rs) {j : Nat} {r : Row} (hr : rs[j]? = some r) {e : Int} {l : List (Int × Int)} (he : r.1 ≤ e) (h8 : e ≤ 8) (I : Imps rs j l) : Good (rs.set j (e, l)) := by
  refine ⟨by rw [List.length_set]; exact g.l0, by rw [List.length_set]; exact g.l1, fun i hi x hx => ?_⟩
  rw [List.length_set] at hi
  rw [List.getElem?_set] at hx
  have fj := g.f j (List.getElem?_eq_some_iff.mp hr).1 r hr
  split at hx
  · rename_i ej
    split at hx
    · cases hx
      subst ej
      have I2 : Imps (rs.set j (e, l)) j l := ⟨I.nd, fun q hq => (I.q q hq).set hr he, I.l⟩
      exact I2.fit (by have := fj.e0; omega) h8
    · cases hx
  · have f := g.f i hi x hx
    have I2 : Imps (rs.set j (e, l)) i x.2 := ⟨f.imps.nd, fun q hq => (f.imps.q q hq).set hr he, f.l⟩
    exact I2.fit f.e0 f.e1
theorem Good.any {rs : List Row} (g : Good rs) : RAny rs := by
  refine ⟨by have := g.l1; omega, fun r hr => ?_⟩
  obtain ⟨i, hi, rfl⟩ := List.mem_iff_getElem.mp hr
  have f := g.f i hi _ (List.getElem?_eq_getElem hi)
  have e0 := f.e0
  have e1 := f.e1
  refine ⟨by omega, by omega, by have := f.l; omega, fun q hq => ?_⟩
  have p := f.imps.q q hq
  have c0 := p.c0
  have c1 := p.c1
  have p0 := p.p0
  have l1 := g.l1
  have hc : q.1.toNat < rs.length := by omega
  have p1 := p.p1 _ (List.getElem?_eq_getElem hc)
  have f2 := (g.f _ hc _ (List.getElem?_eq_getElem hc)).e1
  exact ⟨by omega, by omega, by omega, by omega⟩
/-- imports that may stand in the place of others, and are not the same -/
structure Chg (rs : List Row) (i : Nat) (l0 l : List (Int × Int)) : Prop where
  i : Imps rs i l
  ne : l ≠ l0
theorem chg_tail {rs : List Row} {i : Nat} {l : List (Int × Int)} (I : Imps rs i l) (h : 0 < l.length) : Chg rs i l (l.drop 1) := by
  refine ⟨⟨I.nd.sublist (List.drop_sublist 1 l), fun q hq => I.q q (List.mem_of_mem_drop hq), by rw [List.length_drop]; have := I.l; omega⟩, fun e => ?_⟩
  have := congrArg List.length e
  rw [List.length_drop] at this
  omega
theorem chg_turn {rs : List Row} {i : Nat} {l : List (Int × Int)} (I : Imps rs i l) (h : 1 < l.length) : Chg rs i l (l.drop 1 ++ l.take 1) := by
  match l, I, h with
  | [], _, h => simp at h
  | [x], _, h => simp at h
  | x :: y :: t, I, h =>
    have nd := I.nd
    have e1 : (x :: y :: t).drop 1 ++ (x :: y :: t).take 1 = y :: t ++ [x] := rfl
    rw [e1]
    have pm : (y :: t ++ [x]).Perm (x :: y :: t) := List.perm_append_comm
    refine ⟨⟨(pm.nodup_iff).mpr nd, fun q hq => I.q q (pm.mem_iff.mp hq), by rw [pm.length_eq]; exact I.l⟩, fun e => ?_⟩
    have hy : y = x := by
      have := congrArg List.head? e
      simpa using this
    subst hy
    simp at nd
theorem chg_new {rs : List Row} {i : Nat} {l : List (Int × Int)} {q : Int × Int} (I : Imps rs i l) (hq : q ∉ l) (p : PairOk rs i q) : Chg rs i l (l.drop 1 ++ [q]) := by
  have hq2 : q ∉ l.drop 1 := fun z => hq (List.mem_of_mem_drop z)
  refine ⟨⟨?_, fun x hx => ?_, ?_⟩, fun e => hq ?_⟩
  · rw [List.nodup_append]
    exact ⟨I.nd.sublist (List.drop_sublist 1 l), by simp, fun a ha b hb => by
      simp only [List.mem_cons, List.not_mem_nil, or_false] at hb
      subst hb
      exact fun e => hq2 (e ▸ ha)⟩
  · rcases List.mem_append.mp hx with hx | hx
    · exact I.q x (List.mem_of_mem_drop hx)
    · simp only [List.mem_cons, List.not_mem_nil, or_false] at hx
      subst hx
      exact p
  · rw [List.length_append, List.length_drop]
    have := I.l
    cases l with
    | nil => simp
    | cons x l => simp only [List.length_cons, List.length_nil] at *; omega
  · rw [← e]
    simp
theorem set_ne {rs : List Row} {j : Nat} {r x : Row} (hr : rs[j]? = some r) (h : x ≠ r) : rs.set j x ≠ rs := fun e => by
  have h2 : (rs.set j x)[j]? = some x := by rw [List.getElem?_set, if_pos rfl, if_pos (List.getElem?_eq_some_iff.mp hr).1]
  rw [e, hr] at h2
  cases h2
  exact h rfl
theorem set_parts {rs : List Row} {j : Nat} (hj : j < rs.length) (x : Row) : rs.take j ++ [x] ++ rs.drop (j + 1) = rs.set j x := by
  rw [List.set_eq_take_append_cons_drop, if_pos hj, List.append_assoc]
  rfl
end
end IA

set_option Elab.async false
set_option linter.all false
set_option maxRecDepth 100000
set_option maxHeartbeats 4000000
/-! ## Traces (own text) -/
namespace IA
set_option hygiene false in
local macro_rules | `(tactic| fail "st") => `(tactic| first | simp only [hp, r_c, r_var, r_op, r_neg, r_tup, r_lst, r_ix, r_bi, r_bm, r_call, t_var, t_op, t_and, b_nil, b_cons, v_nil, v_cons, i_rng, g_name, g_nameN, s_nil, s_cons, x_asg, x_ret, x_ex, x_ifs, x_for, o_addI, o_lt, o_eqI, if_t, if_f, at_t, at_f, tr_b, tr_l, va_v, va_o, kp_v, kp_n, kp_o, ko_o, li_o, so_o, bi_lenL, bi_append, ix_t, ix_l, ix_o, at_0, at_1, st_set, put_o, hp_set, fl_n, fl_r, ou_r, ca_G, re_t, fo_x, ki_n, ki_r, u_kOp1, u_kOp2, kNeg, u_kTup, u_kLst, u_kIx1, u_kBi, u_kBm, u_kBm1, u_kB1, u_kB2, u_kV1, u_kV2, u_kV3, kRng, u_kNx, u_kAsg, u_kRt, u_kRetS, u_kEx, u_kI1, u_kAp, kO_some, true_and, List.length_cons, List.length_nil, List.getElem?_cons_zero, List.getElem?_cons_succ, List.set_cons_zero, List.set_cons_succ, Nat.reduceAdd, szL, Nat.reduceLeDiff, List.nil_append, List.cons_append, Bool.not_true, Bool.not_false, recvOk, Option.isSome_some, Int.reduceToNat, List.length_map] | simp only [r_c, r_var, r_op, r_neg, r_tup, r_lst, r_ix, r_bi, r_bm, r_call, t_var, t_op, t_and, b_nil, b_cons, v_nil, v_cons, i_rng, g_name, g_nameN, s_nil, s_cons, x_asg, x_ret, x_ex, x_ifs, x_for, o_addI, o_lt, o_eqI, if_t, if_f, at_t, at_f, tr_b, tr_l, va_v, va_o, kp_v, kp_n, kp_o, ko_o, li_o, so_o, bi_lenL, bi_append, ix_t, ix_l, ix_o, at_0, at_1, st_set, put_o, hp_set, fl_n, fl_r, ou_r, ca_G, re_t, fo_x, ki_n, ki_r, u_kOp1, u_kOp2, kNeg, u_kTup, u_kLst, u_kIx1, u_kBi, u_kBm, u_kBm1, u_kB1, u_kB2, u_kV1, u_kV2, u_kV3, kRng, u_kNx, u_kAsg, u_kRt, u_kRetS, u_kEx, u_kI1, u_kAp, kO_some, true_and, List.length_cons, List.length_nil, List.getElem?_cons_zero, List.getElem?_cons_succ, List.set_cons_zero, List.set_cons_succ, Nat.reduceAdd, szL, Nat.reduceLeDiff, List.nil_append, List.cons_append, Bool.not_true, Bool.not_false, recvOk, Option.isSome_some, Int.reduceToNat, List.length_map])
set_option hygiene false in
local macro_rules | `(tactic| fail "qs") => `(tactic| first
  | with_reducible refine if_s (fun hq => ?_) (fun hq => ?_)
  | with_reducible refine at_s (fun hq => ?_) (fun hq => ?_)
  | with_reducible refine ot_s (fun hq => ?_) (fun hq => ?_)
  | with_reducible refine it_s (fun hq => ?_) (fun hq => ?_)
  | with_reducible refine ad_s (fun hq => ?_) (fun hq => ?_)
  | with_reducible refine or_s (fun hq => ?_) (fun hq => ?_)
  | with_reducible refine ch_s (fun hq => ?_) (fun hq => ?_)
  | with_reducible refine c1_s (fun hq => ?_) (fun hq => ?_))
local macro_rules | `(tactic| fail "sd") => `(tactic| first
  | assumption
  | omega
  | exact smR (by omega) (by omega)
  | exact bdI (by omega) (by omega)
  | exact And.intro (bdI (by omega) (by omega)) (bdI (by omega) (by omega))
  | exact smL (by omega) (by omega)
  | decide)
set_option hygiene false in
local macro_rules | `(tactic| fail "g1") => `(tactic| first
  | fail "st"
  | (fail "qs" <;> (try simp only [decide_eq_true_eq, decide_eq_false_iff_not, Bool.not_eq_true', Bool.not_eq_false', beq_iff_eq, bne_iff_ne, ne_eq, Int.not_le, Int.not_lt] at hq))
  | ((with_reducible apply And.intro); (case left => fail "sd"))
  | fail "none")
set_option hygiene false in
local macro_rules | `(tactic| fail "go") => `(tactic| repeat' fail "g1")
set_option hygiene false in
local macro_rules | `(tactic| fail "ha") => `(tactic| first
  | assumption
  | exact HasA.set (by assumption)
  | fail "none")
set_option hygiene false in
local macro_rules | `(tactic| fail "dr") => `(tactic| first
  | (with_reducible refine draw_A hD (by fail "ha") (by omega) (by omega) ?_; intro v c hc hv0 hv1)
  | (with_reducible refine spend_A hS (by fail "ha") ?_; intro b c hc)
  | (with_reducible refine number_A hD hN (by fail "ha") ?_; intro v c hc hv0 hv1)
  | (with_reducible refine few_A hD hF (by fail "ha") (by omega) (by omega) ?_; intro v c hc hv0 hv1)
  | fail "none")
set_option hygiene false in
local macro_rules | `(tactic| fail "gd") => `(tactic| repeat' (first | fail "g1" | fail "dr" | fail "none"))

set_option hygiene false in
local macro_rules | `(tactic| fail "ob") => `(tactic| simp only [bi_pop, o_addON, kAddN, List.map_append, List.map_cons, List.map_nil, pop_app, Row.v, at_last, tr_o, kTrL, em_app, em_nil, em_cons, String.reduceEq, reduceIte, List.mem_cons, List.not_mem_nil, or_false, or_true, true_and, kO_some, List.length_cons, List.length_nil, Nat.reduceAdd, Nat.reduceLT, eq_self, Bool.true_and])
set_option hygiene false in
local macro_rules | `(tactic| fail "ma") => `(tactic| first | (rw [at_e ha1]) | (rw [at_e ha2]) | (rw [at_e ha3]) | (rw [at_e ha4]) | (rw [ati_e ha1]) | (rw [ati_e ha2]) | (rw [ati_e ha3]) | (rw [ati_e ha4]) | (rw [at_n (by (first | omega | (rw [List.length_map]; omega)))]; try rw [List.getElem_map]) | (rw [ix_nat (by (first | omega | (simp only [List.length_map]; omega)))]))
local macro_rules | `(tactic| fail "sx") => `(tactic| first | omega | (simp only []; omega))
local macro_rules | `(tactic| fail "rd") => `(tactic| repeat' (first | rw [hp_get] | (rw [hs_ne (by fail "sx")]) | (rw [hn_get2 (by first | rfl | fail "sx")]) | (rw [hn_ne (by fail "sx")]) | rw [hb_c]))
set_option hygiene false in
local macro_rules | `(tactic| fail "oo") => `(tactic| repeat' (first | fail "st" | simp only [hx] | simp only [hy] | simp only [hz] | simp only [hu] | simp only [hv] | simp only [hw] | fail "ob" | (with_reducible refine hw1 _ _ _ ?_) | (with_reducible refine hw2 _ _ _ ?_) | (with_reducible refine hw3 _ _ _ ?_)  | (rw [hs_ne (by omega)]) | (rw [hn_ne (by (first | omega | (simp only []; omega)))]) | fail "ma" | fail "dr" | fail "g1" | fail "none"))
set_option hygiene false in
local macro_rules | `(tactic| fail "on") => `(tactic| repeat' (first | fail "st" | simp only [hx] | simp only [hy] | simp only [hz] | simp only [hu] | simp only [hv] | simp only [hw] | fail "ob" | (with_reducible refine hw1 _ _ _ ?_) | (with_reducible refine hw2 _ _ _ ?_) | (with_reducible refine hw3 _ _ _ ?_)  | (rw [hs_ne (by omega)]) | (rw [hn_ne (by (first | omega | (simp only []; omega)))]) | fail "ma" | fail "dr" | ((with_reducible apply And.intro); (case left => fail "sd")) | fail "none"))

inductive Ev where
  | call (a b : Nat) (p x : Int) | ret (a b : Nat) (x : Int) | fin (x : Int)
  deriving DecidableEq
def Ev.v : Ev → Val
  | .call a b p x => .tup [.str "call", .int (a : Int), .int (b : Int), .int p, .int x]
  | .ret a b x => .tup [.str "return", .int (a : Int), .int (b : Int), .int x]
  | .fin x => .tup [.str "end", .int x]
def Ev.live : Ev → Bool
  | .fin _ => false
  | _ => true
section
variable {P : Prog} {lim k : Nat} {h : AHeap} {p : Nat} {ns : List Int} {n : Int} {Φ : Val → AHeap → Prop} {Ψ : String → Val → AHeap → Prop}
end
end IA

set_option Elab.async false
set_option linter.all false
set_option maxRecDepth 100000
set_option maxHeartbeats 4000000
/-! ## Who makes which events (own text) -/
namespace IA
set_option hygiene false in
local macro_rules | `(tactic| fail "st") => `(tactic| first | simp only [hp, r_c, r_var, r_op, r_isn, r_neg, r_tup, r_lst, r_ix, r_fld, r_bm, t_var, t_op, t_isn, t_or, t_not, b_nil, b_cons, v_nil, v_cons, i_enum, g_name, g_nameN, g_tup, gs_nil, gs_cons, s_nil, s_cons, x_asg, x_ret, x_ex, x_ifs, x_raise, x_for, o_neI, o_eqS, if_t, if_f, ot_f, nt, tr_b, in_i, va_v, va_o, kp_v, kp_o, ko_o, li_o, so_o, bi_append, ix_t, ix_o, at_0, at_1, at_2, at_3, st_set, put_o, sq_el, fl_n, fl_r, ou_r, fo_x, ki_n, u_kOp1, u_kOp2, kNeg, u_kTup, u_kLst, u_kIx1, u_kFld, u_kBm, u_kBm1, u_kVl, u_kB1, u_kB2, u_kV1, u_kV2, u_kV3, u_kGs, u_kNx, u_kAsg, u_kRt, u_kRetS, u_kEx, u_kRs, u_kRs1, u_kI1, u_kAp, u_kOutX, kO_some, true_and, and_true, List.length_cons, List.length_nil, List.getElem?_cons_zero, List.getElem?_cons_succ, List.set_cons_zero, List.set_cons_succ, Nat.reduceAdd, szL, Nat.reduceLeDiff, List.nil_append, List.cons_append, decide_true, decide_false, Bool.not_true, Bool.not_false, recvOk, Option.isSome_some, Int.reduceToNat, List.length_map] | simp only [r_c, r_var, r_op, r_isn, r_neg, r_tup, r_lst, r_ix, r_fld, r_bm, t_var, t_op, t_isn, t_or, t_not, b_nil, b_cons, v_nil, v_cons, i_enum, g_name, g_nameN, g_tup, gs_nil, gs_cons, s_nil, s_cons, x_asg, x_ret, x_ex, x_ifs, x_raise, x_for, o_neI, o_eqS, if_t, if_f, ot_f, nt, tr_b, in_i, va_v, va_o, kp_v, kp_o, ko_o, li_o, so_o, bi_append, ix_t, ix_o, at_0, at_1, at_2, at_3, st_set, put_o, sq_el, fl_n, fl_r, ou_r, fo_x, ki_n, u_kOp1, u_kOp2, kNeg, u_kTup, u_kLst, u_kIx1, u_kFld, u_kBm, u_kBm1, u_kVl, u_kB1, u_kB2, u_kV1, u_kV2, u_kV3, u_kGs, u_kNx, u_kAsg, u_kRt, u_kRetS, u_kEx, u_kRs, u_kRs1, u_kI1, u_kAp, u_kOutX, kO_some, true_and, and_true, List.length_cons, List.length_nil, List.getElem?_cons_zero, List.getElem?_cons_succ, List.set_cons_zero, List.set_cons_succ, Nat.reduceAdd, szL, Nat.reduceLeDiff, List.nil_append, List.cons_append, decide_true, decide_false, Bool.not_true, Bool.not_false, recvOk, Option.isSome_some, Int.reduceToNat, List.length_map])
set_option hygiene false in
local macro_rules | `(tactic| fail "qs") => `(tactic| first
  | with_reducible refine if_s (fun hq => ?_) (fun hq => ?_)
  | with_reducible refine at_s (fun hq => ?_) (fun hq => ?_)
  | with_reducible refine ot_s (fun hq => ?_) (fun hq => ?_)
  | with_reducible refine it_s (fun hq => ?_) (fun hq => ?_)
  | with_reducible refine ad_s (fun hq => ?_) (fun hq => ?_)
  | with_reducible refine or_s (fun hq => ?_) (fun hq => ?_)
  | with_reducible refine ch_s (fun hq => ?_) (fun hq => ?_)
  | with_reducible refine c1_s (fun hq => ?_) (fun hq => ?_))
local macro_rules | `(tactic| fail "sd") => `(tactic| first
  | assumption
  | omega
  | exact smR (by omega) (by omega)
  | exact bdI (by omega) (by omega)
  | exact And.intro (bdI (by omega) (by omega)) (bdI (by omega) (by omega))
  | exact smL (by omega) (by omega)
  | decide)
set_option hygiene false in
local macro_rules | `(tactic| fail "g1") => `(tactic| first
  | fail "st"
  | (fail "qs" <;> (try simp only [decide_eq_true_eq, decide_eq_false_iff_not, Bool.not_eq_true', Bool.not_eq_false', beq_iff_eq, bne_iff_ne, ne_eq, Int.not_le, Int.not_lt] at hq))
  | ((with_reducible apply And.intro); (case left => fail "sd"))
  | fail "none")
set_option hygiene false in
local macro_rules | `(tactic| fail "go") => `(tactic| repeat' fail "g1")
set_option hygiene false in
local macro_rules | `(tactic| fail "ha") => `(tactic| first
  | assumption
  | exact HasA.set (by assumption)
  | fail "none")
set_option hygiene false in
local macro_rules | `(tactic| fail "dr") => `(tactic| first
  | (with_reducible refine draw_A hD (by fail "ha") (by omega) (by omega) ?_; intro v c hc hv0 hv1)
  | (with_reducible refine spend_A hS (by fail "ha") ?_; intro b c hc)
  | (with_reducible refine number_A hD hN (by fail "ha") ?_; intro v c hc hv0 hv1)
  | (with_reducible refine few_A hD hF (by fail "ha") (by omega) (by omega) ?_; intro v c hc hv0 hv1)
  | fail "none")
set_option hygiene false in
local macro_rules | `(tactic| fail "gd") => `(tactic| repeat' (first | fail "g1" | fail "dr" | fail "none"))

set_option hygiene false in
local macro_rules | `(tactic| fail "ob") => `(tactic| simp only [fd_o, bi_pop, Option.map_some, List.map_append, List.map_cons, List.map_nil, pop_app, at_last, tr_o, kTrL, em_app, em_nil, o_nmemT, String.reduceEq, reduceIte, List.mem_cons, List.not_mem_nil, or_false, true_and, and_true, kO_some, u_kVl, List.length_cons, List.length_nil, Nat.reduceAdd, Nat.reduceLT, eq_self, decide_true, Bool.true_and, look, goodL_pair, any_pair2, good2, dep2])
set_option hygiene false in
local macro_rules | `(tactic| fail "ma") => `(tactic| first | (rw [at_e ha1]) | (rw [at_e ha2]) | (rw [at_e ha3]) | (rw [at_e ha4]) | (rw [ati_e ha1]) | (rw [ati_e ha2]) | (rw [ati_e ha3]) | (rw [ati_e ha4]) | (rw [at_n (by (first | omega | (rw [List.length_map]; omega)))]; try rw [List.getElem_map]) | (rw [ix_nat (by (first | omega | (simp only [List.length_map]; omega)))]))
local macro_rules | `(tactic| fail "sx") => `(tactic| first | omega | (simp only []; omega))
local macro_rules | `(tactic| fail "rd") => `(tactic| repeat' (first | rw [hp_get] | (rw [hs_ne (by fail "sx")]) | (rw [hn_get2 (by first | rfl | fail "sx")]) | (rw [hn_ne (by fail "sx")]) | rw [hb_c]))
set_option hygiene false in
local macro_rules | `(tactic| fail "oo") => `(tactic| repeat' (first | fail "st" | simp only [hx] | simp only [hy] | simp only [hz] | simp only [hu] | simp only [hv] | simp only [hw] | fail "ob" | (with_reducible refine hw1 _ _ _ ?_) | (with_reducible refine hw2 _ _ _ ?_) | (with_reducible refine hw3 _ _ _ ?_)  | (rw [hs_ne (by omega)]) | (rw [hn_ne (by (first | omega | (simp only []; omega)))]) | fail "ma" | fail "dr" | fail "g1" | fail "none"))
set_option hygiene false in
local macro_rules | `(tactic| fail "on") => `(tactic| repeat' (first | fail "st" | simp only [hx] | simp only [hy] | simp only [hz] | simp only [hu] | simp only [hv] | simp only [hw] | fail "ob" | (with_reducible refine hw1 _ _ _ ?_) | (with_reducible refine hw2 _ _ _ ?_) | (with_reducible refine hw3 _ _ _ ?_)  | (rw [hs_ne (by omega)]) | (rw [hn_ne (by (first | omega | (simp only []; omega)))]) | fail "ma" | fail "dr" | ((with_reducible apply And.intro); (case left => fail "sd")) | fail "none"))

section
variable {P : Prog} {lim k : Nat} {h : AHeap} {p : Nat} {ns : List Int} {n : Int} {Φ : Val → AHeap → Prop} {Ψ : String → Val → AHeap → Prop}
end
end IA

set_option Elab.async false
set_option linter.all false
set_option maxRecDepth 100000
set_option maxHeartbeats 4000000
/-! ## try .. except, step by step (own text) -/
namespace IA
set_option hygiene false in
local macro_rules | `(tactic| fail "st") => `(tactic| first | simp only [hp, r_var, r_op, r_isn, r_and, r_not, r_isi, t_isn, t_isi, t_or, s_nil, s_cons, x_ret, x_ifs, o_eqI, if_t, if_f, ot_f, tr_b, in_i, va_v, kp_v, pk_i, is_1, fl_n, fl_r, ou_r, u_kOp1, u_kOp2, and_t, kNot, u_kBl, u_kRt, u_kRetS, u_kIs1, kO_some, true_and, List.getElem?_cons_zero, List.getElem?_cons_succ, Nat.reduceAdd, Nat.reduceLeDiff, ofT, List.nil_append, List.cons_append, Bool.not_false, Int.reduceToNat] | simp only [r_var, r_op, r_isn, r_and, r_not, r_isi, t_isn, t_isi, t_or, s_nil, s_cons, x_ret, x_ifs, o_eqI, if_t, if_f, ot_f, tr_b, in_i, va_v, kp_v, pk_i, is_1, fl_n, fl_r, ou_r, u_kOp1, u_kOp2, and_t, kNot, u_kBl, u_kRt, u_kRetS, u_kIs1, kO_some, true_and, List.getElem?_cons_zero, List.getElem?_cons_succ, Nat.reduceAdd, Nat.reduceLeDiff, ofT, List.nil_append, List.cons_append, Bool.not_false, Int.reduceToNat])
set_option hygiene false in
local macro_rules | `(tactic| fail "qs") => `(tactic| first
  | with_reducible refine if_s (fun hq => ?_) (fun hq => ?_)
  | with_reducible refine at_s (fun hq => ?_) (fun hq => ?_)
  | with_reducible refine ot_s (fun hq => ?_) (fun hq => ?_)
  | with_reducible refine it_s (fun hq => ?_) (fun hq => ?_)
  | with_reducible refine ad_s (fun hq => ?_) (fun hq => ?_)
  | with_reducible refine or_s (fun hq => ?_) (fun hq => ?_)
  | with_reducible refine ch_s (fun hq => ?_) (fun hq => ?_)
  | with_reducible refine c1_s (fun hq => ?_) (fun hq => ?_))
local macro_rules | `(tactic| fail "sd") => `(tactic| first
  | assumption
  | omega
  | exact smR (by omega) (by omega)
  | exact bdI (by omega) (by omega)
  | exact And.intro (bdI (by omega) (by omega)) (bdI (by omega) (by omega))
  | exact smL (by omega) (by omega)
  | decide)
set_option hygiene false in
local macro_rules | `(tactic| fail "g1") => `(tactic| first
  | fail "st"
  | (fail "qs" <;> (try simp only [decide_eq_true_eq, decide_eq_false_iff_not, Bool.not_eq_true', Bool.not_eq_false', beq_iff_eq, bne_iff_ne, ne_eq, Int.not_le, Int.not_lt] at hq))
  | ((with_reducible apply And.intro); (case left => fail "sd"))
  | fail "none")
set_option hygiene false in
local macro_rules | `(tactic| fail "go") => `(tactic| repeat' fail "g1")
set_option hygiene false in
local macro_rules | `(tactic| fail "ha") => `(tactic| first
  | assumption
  | exact HasA.set (by assumption)
  | fail "none")
set_option hygiene false in
local macro_rules | `(tactic| fail "dr") => `(tactic| first
  | (with_reducible refine draw_A hD (by fail "ha") (by omega) (by omega) ?_; intro v c hc hv0 hv1)
  | (with_reducible refine spend_A hS (by fail "ha") ?_; intro b c hc)
  | (with_reducible refine number_A hD hN (by fail "ha") ?_; intro v c hc hv0 hv1)
  | (with_reducible refine few_A hD hF (by fail "ha") (by omega) (by omega) ?_; intro v c hc hv0 hv1)
  | fail "none")
set_option hygiene false in
local macro_rules | `(tactic| fail "gd") => `(tactic| repeat' (first | fail "g1" | fail "dr" | fail "none"))

set_option hygiene false in
local macro_rules | `(tactic| fail "ob") => `(tactic| simp only [List.map_cons, List.map_nil, String.reduceEq, reduceIte, true_and, kO_some, Nat.reduceAdd, Nat.reduceLT, eq_self, Bool.true_and])
set_option hygiene false in
local macro_rules | `(tactic| fail "ma") => `(tactic| first | (rw [at_e ha1]) | (rw [at_e ha2]) | (rw [at_e ha3]) | (rw [at_e ha4]) | (rw [ati_e ha1]) | (rw [ati_e ha2]) | (rw [ati_e ha3]) | (rw [ati_e ha4]) | (rw [at_n (by (first | omega | (rw [List.length_map]; omega)))]; try rw [List.getElem_map]) | (rw [ix_nat (by (first | omega | (simp only []; omega)))]))
local macro_rules | `(tactic| fail "sx") => `(tactic| first | omega | (simp only []; omega))
local macro_rules | `(tactic| fail "rd") => `(tactic| repeat' (first | rw [hp_get] | (rw [hs_ne (by fail "sx")]) | (rw [hn_get2 (by first | rfl | fail "sx")]) | (rw [hn_ne (by fail "sx")]) | rw [hb_c]))
set_option hygiene false in
local macro_rules | `(tactic| fail "oo") => `(tactic| repeat' (first | fail "st" | simp only [hx] | simp only [hy] | simp only [hz] | simp only [hu] | simp only [hv] | simp only [hw] | fail "ob" | (with_reducible refine hw1 _ _ _ ?_) | (with_reducible refine hw2 _ _ _ ?_) | (with_reducible refine hw3 _ _ _ ?_)  | (rw [hs_ne (by omega)]) | (rw [hn_ne (by (first | omega | (simp only []; omega)))]) | fail "ma" | fail "dr" | fail "g1" | fail "none"))
set_option hygiene false in
local macro_rules | `(tactic| fail "on") => `(tactic| repeat' (first | fail "st" | simp only [hx] | simp only [hy] | simp only [hz] | simp only [hu] | simp only [hv] | simp only [hw] | fail "ob" | (with_reducible refine hw1 _ _ _ ?_) | (with_reducible refine hw2 _ _ _ ?_) | (with_reducible refine hw3 _ _ _ ?_)  | (rw [hs_ne (by omega)]) | (rw [hn_ne (by (first | omega | (simp only []; omega)))]) | fail "ma" | fail "dr" | ((with_reducible apply And.intro); (case left => fail "sd")) | fail "none"))

def kTryN (Γ : Env) (ΦX : Flow → St → Prop) (Ψ : XK) (els : Ss) (f : Flow) (s : St) : Prop :=
  match f with
  | .nxt => WS Γ els s ΦX Ψ
  | f => ΦX f s
def kTryE (ΦX : Flow → St → Prop) (i : Nat) (f : Flow) (s : St) : Prop := noX (s.σ.set i none) = true ∧ ΦX f ⟨s.σ.set i none, s.h⟩
def kTryX (Γ : Env) (ΦX : Flow → St → Prop) (Ψ : XK) (C : String) (slot : Option Nat) (hd : Ss) (xs : List String) (D : String) (v : Val) (s : St) : Prop :=
  D ∈ xs ∧ if baseC D C = true then (match slot with
    | none => WS Γ hd s ΦX (fun _ _ _ => False)
    | some i => WS Γ hd ⟨s.σ.set i (some (.exc D v)), s.h⟩ (kTryE ΦX i) (fun _ _ _ => False)) else Ψ D v s
section
variable {Γ : Env} {ΦX : Flow → St → Prop} {Ψ : XK} {C D : String} {slot : Option Nat} {b hd els : Ss} {xs : List String} {s : St} {v : Val} {i : Nat} {f : Flow}
theorem x_try : WX Γ (.try b C slot hd els xs) s ΦX Ψ = (noX s.σ = true ∧ WS Γ b s (kTryN Γ ΦX Ψ els) (kTryX Γ ΦX Ψ C slot hd xs)) := by
  simp only [WX, WS, exec]
  cases e : noX s.σ with
  | false => simp [W]
  | true =>
    simp only [if_true, true_and]
    cases execs Γ b s with
    | stuck => rfl
    | ok f1 s1 => cases f1 <;> rfl
    | exc D v s1 =>
      show W _ _ _ = kTryX Γ ΦX Ψ C slot hd xs D v s1
      unfold kTryX
      by_cases h : D ∈ xs
      · simp only [h, if_true, true_and]
        cases e2 : baseC D C with
        | false => rfl
        | true =>
          simp only [if_true]
          cases slot with
          | none => show W (Res.quiet _) _ _ = WS _ _ _ _ _; rw [W_quiet]; rfl
          | some i =>
            show W (Res.bind (Res.quiet _) _) _ _ = WS _ _ _ _ _
            rw [W_bind, W_quiet]
            simp only [W_chk, W_ok]
            rfl
      · simp only [h, if_false, false_and]
        rfl
theorem tn_n : kTryN Γ ΦX Ψ .nil .nxt s = ΦX .nxt s := by simp only [kTryN, s_nil]
theorem tx_s (h1 : D ∈ xs) (h2 : baseC D C = true) : kTryX Γ ΦX Ψ C (some i) hd xs D v s = WS Γ hd ⟨s.σ.set i (some (.exc D v)), s.h⟩ (kTryE ΦX i) (fun _ _ _ => False) := by
  unfold kTryX
  rw [if_pos h2]
  simp [h1]
theorem te_r : kTryE ΦX i f s = (noX (s.σ.set i none) = true ∧ ΦX f ⟨s.σ.set i none, s.h⟩) := rfl
end
section
variable {P : Prog} {lim k : Nat} {h : AHeap} {Φ : Val → AHeap → Prop} {Ψ : String → Val → AHeap → Prop}
theorem same_hot_spec (hS : P "_law_same__hot" = some IX.b_law_same__hot) (u w : Int) (hΦ : Φ (.bl (decide (u = w))) h) : WR P lim (k + 1) "_law_same__hot" [.int u, .int w] h Φ Ψ := by
  rw [r_enter hS rfl]
  unfold IX.b_law_same__hot start
  simp only [List.map_cons, List.map_nil, List.cons_append, List.nil_append, Nat.reduceSub, List.replicate]
  fail "oo"
  exact hΦ
end
end IA

set_option Elab.async false
set_option linter.all false
set_option maxRecDepth 100000
set_option maxHeartbeats 4000000
/-! ## Traces of any events: the first one that breaks the rules (own text) -/
namespace IA
set_option hygiene false in
local macro_rules | `(tactic| fail "st") => `(tactic| first | simp only [hp, r_c, r_var, r_op, r_isn, r_isnt, r_and, r_neg, r_tup, r_lst, r_ix, r_sl, r_fld, r_bi, r_bm, r_call, t_var, t_op, t_isn, t_and, t_or, t_not, b_nil, b_cons, v_nil, v_cons, i_enum, i_rng, g_name, g_nameN, g_tup, gs_nil, gs_cons, s_nil, s_cons, x_asg, x_ret, x_ex, x_ifs, x_raise, x_for, o_addI, o_addN, o_gt, o_eqI, o_neI, o_eqS, if_t, if_f, at_t, at_f, ot_t, ot_f, nt, tr_b, in_n, in_i, nn_n, nn_i, va_v, va_o, kp_v, kp_n, kp_o, ko_o, li_o, so_o, bi_lenL, bi_lenO, bi_append, ix_t, ix_l, ix_o, at_0, at_1, at_2, at_3, st_set, put_o, sq_el, hp_set, fl_n, fl_r, ou_r, ca_G, re_t, fo_x, ki_n, ki_r, u_kOp1, u_kOp2, kNeg, u_kTup, u_kLst, u_kIx1, u_kSl1, kSl2, kSl3, oi_n, oi_s, sl_l, u_kFld, u_kBi, u_kBm, u_kBm1, u_kVl, u_kB1, u_kB2, u_kV1, u_kV2, u_kV3, kRng, u_kGs, u_kNx, u_kAsg, u_kRt, u_kRetS, u_kEx, u_kRs, u_kRs1, u_kI1, u_kLen, u_kAp, u_kExc, u_kOutX, kO_some, true_and, and_true, List.length_cons, List.length_nil, List.getElem?_cons_zero, List.getElem?_cons_succ, List.set_cons_zero, List.set_cons_succ, Nat.reduceAdd, szL, Nat.reduceLeDiff, List.nil_append, List.cons_append, decide_true, decide_false, Bool.not_true, Bool.not_false, if_pos, recvOk, Option.isSome_some, Int.reduceToNat, List.length_map] | simp only [r_c, r_var, r_op, r_isn, r_isnt, r_and, r_neg, r_tup, r_lst, r_ix, r_sl, r_fld, r_bi, r_bm, r_call, t_var, t_op, t_isn, t_and, t_or, t_not, b_nil, b_cons, v_nil, v_cons, i_enum, i_rng, g_name, g_nameN, g_tup, gs_nil, gs_cons, s_nil, s_cons, x_asg, x_ret, x_ex, x_ifs, x_raise, x_for, o_addI, o_addN, o_gt, o_eqI, o_neI, o_eqS, if_t, if_f, at_t, at_f, ot_t, ot_f, nt, tr_b, in_n, in_i, nn_n, nn_i, va_v, va_o, kp_v, kp_n, kp_o, ko_o, li_o, so_o, bi_lenL, bi_lenO, bi_append, ix_t, ix_l, ix_o, at_0, at_1, at_2, at_3, st_set, put_o, sq_el, hp_set, fl_n, fl_r, ou_r, ca_G, re_t, fo_x, ki_n, ki_r, u_kOp1, u_kOp2, kNeg, u_kTup, u_kLst, u_kIx1, u_kSl1, kSl2, kSl3, oi_n, oi_s, sl_l, u_kFld, u_kBi, u_kBm, u_kBm1, u_kVl, u_kB1, u_kB2, u_kV1, u_kV2, u_kV3, kRng, u_kGs, u_kNx, u_kAsg, u_kRt, u_kRetS, u_kEx, u_kRs, u_kRs1, u_kI1, u_kLen, u_kAp, u_kExc, u_kOutX, kO_some, true_and, and_true, List.length_cons, List.length_nil, List.getElem?_cons_zero, List.getElem?_cons_succ, List.set_cons_zero, List.set_cons_succ, Nat.reduceAdd, szL, Nat.reduceLeDiff, List.nil_append, List.cons_append, decide_true, decide_false, Bool.not_true, Bool.not_false, if_pos, recvOk, Option.isSome_some, Int.reduceToNat, List.length_map])
set_option hygiene false in
local macro_rules | `(tactic| fail "qs") => `(tactic| first
  | with_reducible refine if_s (fun hq => ?_) (fun hq => ?_)
  | with_reducible refine at_s (fun hq => ?_) (fun hq => ?_)
  | with_reducible refine ot_s (fun hq => ?_) (fun hq => ?_)
  | with_reducible refine it_s (fun hq => ?_) (fun hq => ?_)
  | with_reducible refine ad_s (fun hq => ?_) (fun hq => ?_)
  | with_reducible refine or_s (fun hq => ?_) (fun hq => ?_)
  | with_reducible refine ch_s (fun hq => ?_) (fun hq => ?_)
  | with_reducible refine c1_s (fun hq => ?_) (fun hq => ?_))
local macro_rules | `(tactic| fail "sd") => `(tactic| first
  | assumption
  | omega
  | exact smR (by omega) (by omega)
  | exact bdI (by omega) (by omega)
  | exact And.intro (bdI (by omega) (by omega)) (bdI (by omega) (by omega))
  | exact smL (by omega) (by omega)
  | decide)
set_option hygiene false in
local macro_rules | `(tactic| fail "g1") => `(tactic| first
  | fail "st"
  | (fail "qs" <;> (try simp only [decide_eq_true_eq, decide_eq_false_iff_not, Bool.not_eq_true', Bool.not_eq_false', beq_iff_eq, bne_iff_ne, ne_eq, Int.not_le, Int.not_lt] at hq))
  | ((with_reducible apply And.intro); (case left => fail "sd"))
  | fail "none")
set_option hygiene false in
local macro_rules | `(tactic| fail "go") => `(tactic| repeat' fail "g1")
set_option hygiene false in
local macro_rules | `(tactic| fail "ha") => `(tactic| first
  | assumption
  | exact HasA.set (by assumption)
  | fail "none")
set_option hygiene false in
local macro_rules | `(tactic| fail "dr") => `(tactic| first
  | (with_reducible refine draw_A hD (by fail "ha") (by omega) (by omega) ?_; intro v c hc hv0 hv1)
  | (with_reducible refine spend_A hS (by fail "ha") ?_; intro b c hc)
  | (with_reducible refine number_A hD hN (by fail "ha") ?_; intro v c hc hv0 hv1)
  | (with_reducible refine few_A hD hF (by fail "ha") (by omega) (by omega) ?_; intro v c hc hv0 hv1)
  | fail "none")
set_option hygiene false in
local macro_rules | `(tactic| fail "gd") => `(tactic| repeat' (first | fail "g1" | fail "dr" | fail "none"))

set_option hygiene false in
local macro_rules | `(tactic| fail "ob") => `(tactic| simp only [fd_o, bi_pop, Option.map_some, List.map_append, List.map_cons, List.map_nil, pop_app, at_last, tr_o, kTrL, em_app, em_nil, o_nmemT, String.reduceEq, reduceIte, List.mem_cons, List.not_mem_nil, or_false, true_and, and_true, kO_some, u_kVl, List.length_cons, List.length_nil, Nat.reduceAdd, Nat.reduceLT, eq_self, decide_true, Bool.true_and, look, goodL_pair, any_pair2, cut_map, good2, dep2])
set_option hygiene false in
local macro_rules | `(tactic| fail "ma") => `(tactic| first | (rw [at_e ha1]) | (rw [at_e ha2]) | (rw [at_e ha3]) | (rw [at_e ha4]) | (rw [ati_e ha1]) | (rw [ati_e ha2]) | (rw [ati_e ha3]) | (rw [ati_e ha4]) | (rw [at_n (by (first | omega | (rw [List.length_map]; omega)))]; try rw [List.getElem_map]) | (rw [ix_nat (by (first | omega | (simp only [List.length_map]; omega)))]))
local macro_rules | `(tactic| fail "sx") => `(tactic| first | omega | (simp only []; omega))
local macro_rules | `(tactic| fail "rd") => `(tactic| repeat' (first | rw [hp_get] | (rw [hs_ne (by fail "sx")]) | (rw [hn_get2 (by first | rfl | fail "sx")]) | (rw [hn_ne (by fail "sx")]) | rw [hb_c]))
set_option hygiene false in
local macro_rules | `(tactic| fail "oo") => `(tactic| repeat' (first | fail "st" | simp only [hx] | simp only [hy] | simp only [hz] | simp only [hu] | simp only [hv] | simp only [hw] | fail "ob" | (with_reducible refine hw1 _ _ _ ?_) | (with_reducible refine hw2 _ _ _ ?_) | (with_reducible refine hw3 _ _ _ ?_)  | (rw [hs_ne (by omega)]) | (rw [hn_ne (by (first | omega | (simp only []; omega)))]) | fail "ma" | fail "dr" | fail "g1" | fail "none"))
set_option hygiene false in
local macro_rules | `(tactic| fail "on") => `(tactic| repeat' (first | fail "st" | simp only [hx] | simp only [hy] | simp only [hz] | simp only [hu] | simp only [hv] | simp only [hw] | fail "ob" | (with_reducible refine hw1 _ _ _ ?_) | (with_reducible refine hw2 _ _ _ ?_) | (with_reducible refine hw3 _ _ _ ?_)  | (rw [hs_ne (by omega)]) | (rw [hn_ne (by (first | omega | (simp only []; omega)))]) | fail "ma" | fail "dr" | ((with_reducible apply And.intro); (case left => fail "sd")) | fail "none"))

abbrev Sa := Option Nat × List Nat
def impsAt (rs : List Row) (c : Nat) : List (Int × Int) := (rs[c]?.map Prod.snd).getD []
def nx (rs : List Row) : Sa → Ev → Option Sa
  | (none, _), _ => none
  | (some c, w), .call a b p _ => if a = c ∧ ((b : Int), p) ∈ impsAt rs c then some (some b, w ++ [c]) else none
  | (some c, w), .ret a b _ => if a = c ∧ w.getLast? = some b then some (some b, w.dropLast) else none
  | (some _, w), .fin _ => if w = [] then some (none, []) else none
def fl (rs : List Row) : Sa → Nat → List Ev → Nat ⊕ Sa
  | s, _, [] => .inr s
  | s, k, e :: r => match nx rs s e with
    | none => .inl k
    | some s => fl rs s (k + 1) r
section
variable {P : Prog} {lim k : Nat} {h : AHeap} {p : Nat} {ns : List Int} {n : Int} {Φ : Val → AHeap → Prop} {Ψ : String → Val → AHeap → Prop}
theorem cut_drop {α β : Type} (xs : List α) (f : α → β) (j : Nat) : cut (xs.map f) (some (j : Int)) none = (xs.drop j).map f := by
  unfold cut
  simp only [sIx]
  rw [if_neg (by omega), Int.toNat_natCast, List.length_map, ← List.map_drop]
  rw [List.take_of_length_le (by rw [List.length_map, List.length_drop]; omega)]
  by_cases h : j ≤ xs.length
  · rw [Nat.min_eq_left h]
  · rw [Nat.min_eq_right (by omega), List.drop_of_length_le (by omega), List.drop_of_length_le (by omega)]
theorem cut_dropS {α β : Type} (xs : List α) (f : α → β) (j : Nat) : cut (xs.map f) (some ((j : Int) + 1)) none = (xs.drop (j + 1)).map f := cut_drop xs f (j + 1)
end
end IA

set_option Elab.async false
set_option linter.all false
set_option maxRecDepth 100000
set_option maxHeartbeats 4000000
/-! ## Interfaces that are unlike a given one (law k02; own text) -/
namespace IA
set_option hygiene false in
local macro_rules | `(tactic| fail "st") => `(tactic| first | simp only [hp, r_c, r_var, r_op, r_tup, r_lst, r_ix, r_sl, r_bi, r_bm, r_eqo, r_call, r_mk, t_op, t_call, t_and, t_not, b_nil, b_cons, v_nil, v_cons, i_seq, i_rng, g_name, g_nameN, g_tup, gs_nil, gs_cons, s_nil, s_cons, x_asg, x_ret, x_ex, x_ifs, x_for, o_addI, o_addN, o_lt, o_gt, o_neI, if_f, nt, tr_b, va_v, va_o, kp_v, kp_n, li_o, so_o, li_r, sc_l, bi_lenL, bi_lenR, bi_append, ix_t, ix_r, at_0, st_set, put_o, sq_n, fl_n, fl_r, ou_r, ca_G, re_t, fo_x, ki_n, u_kOp1, u_kOp2, u_kTup, u_kLst, u_kIx1, u_kSl1, kSl2, kSl3, oi_n, oi_s, sl_l, sl_o, sl_r, u_kSlL, u_kBi, u_kBm, u_kBm1, u_kB1, u_kB2, u_kV1, u_kV2, u_kV3, kRng, u_kGs, u_kNx, u_kAsg, u_kRt, u_kRetS, u_kEx, u_kI1, u_kLen, u_kAp, kO_some, true_and, List.length_cons, List.length_nil, List.getElem?_cons_zero, List.getElem?_cons_succ, List.set_cons_zero, List.set_cons_succ, Nat.reduceAdd, szL, Nat.reduceLeDiff, List.nil_append, List.cons_append, Bool.not_true, recvOk, Option.isSome_some, Int.reduceToNat, List.length_map] | simp only [r_c, r_var, r_op, r_tup, r_lst, r_ix, r_sl, r_bi, r_bm, r_eqo, r_call, r_mk, t_op, t_call, t_and, t_not, b_nil, b_cons, v_nil, v_cons, i_seq, i_rng, g_name, g_nameN, g_tup, gs_nil, gs_cons, s_nil, s_cons, x_asg, x_ret, x_ex, x_ifs, x_for, o_addI, o_addN, o_lt, o_gt, o_neI, if_f, nt, tr_b, va_v, va_o, kp_v, kp_n, li_o, so_o, li_r, sc_l, bi_lenL, bi_lenR, bi_append, ix_t, ix_r, at_0, st_set, put_o, sq_n, fl_n, fl_r, ou_r, ca_G, re_t, fo_x, ki_n, u_kOp1, u_kOp2, u_kTup, u_kLst, u_kIx1, u_kSl1, kSl2, kSl3, oi_n, oi_s, sl_l, sl_o, sl_r, u_kSlL, u_kBi, u_kBm, u_kBm1, u_kB1, u_kB2, u_kV1, u_kV2, u_kV3, kRng, u_kGs, u_kNx, u_kAsg, u_kRt, u_kRetS, u_kEx, u_kI1, u_kLen, u_kAp, kO_some, true_and, List.length_cons, List.length_nil, List.getElem?_cons_zero, List.getElem?_cons_succ, List.set_cons_zero, List.set_cons_succ, Nat.reduceAdd, szL, Nat.reduceLeDiff, List.nil_append, List.cons_append, Bool.not_true, recvOk, Option.isSome_some, Int.reduceToNat, List.length_map])
set_option hygiene false in
local macro_rules | `(tactic| fail "qs") => `(tactic| first
  | with_reducible refine if_s (fun hq => ?_) (fun hq => ?_)
  | with_reducible refine at_s (fun hq => ?_) (fun hq => ?_)
  | with_reducible refine ot_s (fun hq => ?_) (fun hq => ?_)
  | with_reducible refine it_s (fun hq => ?_) (fun hq => ?_)
  | with_reducible refine ad_s (fun hq => ?_) (fun hq => ?_)
  | with_reducible refine or_s (fun hq => ?_) (fun hq => ?_)
  | with_reducible refine ch_s (fun hq => ?_) (fun hq => ?_)
  | with_reducible refine c1_s (fun hq => ?_) (fun hq => ?_))
local macro_rules | `(tactic| fail "sd") => `(tactic| first
  | assumption
  | omega
  | exact smR (by omega) (by omega)
  | exact bdI (by omega) (by omega)
  | exact And.intro (bdI (by omega) (by omega)) (bdI (by omega) (by omega))
  | exact smL (by omega) (by omega)
  | decide)
set_option hygiene false in
local macro_rules | `(tactic| fail "g1") => `(tactic| first
  | fail "st"
  | (fail "qs" <;> (try simp only [decide_eq_true_eq, decide_eq_false_iff_not, Bool.not_eq_true', Bool.not_eq_false', beq_iff_eq, bne_iff_ne, ne_eq, Int.not_le, Int.not_lt] at hq))
  | ((with_reducible apply And.intro); (case left => fail "sd"))
  | fail "none")
set_option hygiene false in
local macro_rules | `(tactic| fail "go") => `(tactic| repeat' fail "g1")
set_option hygiene false in
local macro_rules | `(tactic| fail "ha") => `(tactic| first
  | assumption
  | exact HasA.set (by assumption)
  | fail "none")
set_option hygiene false in
local macro_rules | `(tactic| fail "dr") => `(tactic| first
  | (with_reducible refine draw_A hD (by fail "ha") (by omega) (by omega) ?_; intro v c hc hv0 hv1)
  | (with_reducible refine spend_A hS (by fail "ha") ?_; intro b c hc)
  | (with_reducible refine number_A hD hN (by fail "ha") ?_; intro v c hc hv0 hv1)
  | (with_reducible refine few_A hD hF (by fail "ha") (by omega) (by omega) ?_; intro v c hc hv0 hv1)
  | fail "none")
set_option hygiene false in
local macro_rules | `(tactic| fail "gd") => `(tactic| repeat' (first | fail "g1" | fail "dr" | fail "none"))

set_option hygiene false in
local macro_rules | `(tactic| fail "ob") => `(tactic| simp only [mk_G, Option.map_some, List.map_append, List.map_cons, List.map_nil, Row.v, String.reduceEq, reduceIte, List.mem_cons, List.not_mem_nil, or_false, true_and, kO_some, List.length_cons, List.length_nil, Nat.reduceAdd, Nat.reduceLT, eq_self, Bool.true_and, cut_map])
set_option hygiene false in
local macro_rules | `(tactic| fail "ma") => `(tactic| first | (rw [at_e ha1]) | (rw [at_e ha2]) | (rw [at_e ha3]) | (rw [at_e ha4]) | (rw [ati_e ha1]) | (rw [ati_e ha2]) | (rw [ati_e ha3]) | (rw [ati_e ha4]) | (rw [at_n (by (first | omega | (rw [List.length_map]; omega)))]; try rw [List.getElem_map]) | (rw [ix_nat (by (first | omega | (simp only [List.length_map]; omega)))]))
local macro_rules | `(tactic| fail "sx") => `(tactic| first | omega | (simp only []; omega))
local macro_rules | `(tactic| fail "rd") => `(tactic| repeat' (first | rw [hp_get] | (rw [hs_ne (by fail "sx")]) | (rw [hn_get2 (by first | rfl | fail "sx")]) | (rw [hn_ne (by fail "sx")]) | rw [hb_c]))
set_option hygiene false in
local macro_rules | `(tactic| fail "oo") => `(tactic| repeat' (first | fail "st" | simp only [hx] | simp only [hy] | simp only [hz] | simp only [hu] | simp only [hv] | simp only [hw] | fail "ob" | (with_reducible refine hw1 _ _ _ ?_) | (with_reducible refine hw2 _ _ _ ?_) | (with_reducible refine hw3 _ _ _ ?_)  | (rw [hs_ne (by omega)]) | (rw [hn_ne (by (first | omega | (simp only []; omega)))]) | fail "ma" | fail "dr" | fail "g1" | fail "none"))
set_option hygiene false in
local macro_rules | `(tactic| fail "on") => `(tactic| repeat' (first | fail "st" | simp only [hx] | simp only [hy] | simp only [hz] | simp only [hu] | simp only [hv] | simp only [hw] | fail "ob" | (with_reducible refine hw1 _ _ _ ?_) | (with_reducible refine hw2 _ _ _ ?_) | (with_reducible refine hw3 _ _ _ ?_)  | (rw [hs_ne (by omega)]) | (rw [hn_ne (by (first | omega | (simp only []; omega)))]) | fail "ma" | fail "dr" | ((with_reducible apply And.intro); (case left => fail "sd")) | fail "none"))

theorem cut_t1' {α : Type} (l : List α) : cut l none (some 1) = l.take 1 := by
  cases l <;> simp [cut, sIx]
theorem cut_d1' {α : Type} (l : List α) : cut l (some 1) none = l.drop 1 := by
  cases l <;> simp [cut, sIx]
structure Grown (h h' : AHeap) : Prop where
  f : h'.Fresh
  n : h.next ≤ h'.next
  c : ∀ a, a < h.next → h'.c a = h.c a
theorem Grown.refl {h : AHeap} (f : h.Fresh) : Grown h h := ⟨f, Nat.le_refl _, fun _ _ => rfl⟩
theorem Grown.bump {h h' : AHeap} (g : Grown h h') : Grown h h'.bump := ⟨Fresh.bump g.f, by have := g.n; rw [hb_next]; omega, fun a ha => by rw [hb_c]; exact g.c a ha⟩
/-- what the law does behind the change of the exports -/
def unlF : Ss := (.cons (.for (.name 7) (.rng (.bi .len (.cons (.var 0) .nil))) (.cons (.for (.name 8) (.rng (.ix (.ix (.var 0) (.var 7)) (.c (.int 0)))) (.cons (.ifs (.and (.op .ne (.var 7) (.var 2)) (.and (.op .nmem (.tup (.cons (.var 7) (.cons (.var 8) .nil))) (.var 4)) ((.op .gt (.bi .len (.cons (.var 4) .nil)) (.c (.int 0)))))) (.cons (.ex (.bm .list .append (.var 6) (.cons (.op .add (.sl (.var 4) (some ()) none (.c (.int 1)) (.c .non)) (.lst (.cons (.tup (.cons (.var 7) (.cons (.var 8) .nil))) .nil))) .nil))) .nil) .nil) .nil)) .nil)) (.cons (.for (.name 9) (.seq (.sl (.var 6) none (some ()) (.c .non) (.c (.int 4)))) (.cons (.ifs (.not ((.call "_law_same" (.cons (.eqo "Interface" (.var 1) (.mk "Interface" (.cons (.op .add (.op .add (.sl (.var 0) none (some ()) (.c .non) (.var 2)) (.lst (.cons (.tup (.cons (.var 3) (.cons (.var 9) .nil))) .nil))) (.sl (.var 0) (some ()) none (.op .add (.var 2) (.c (.int 1))) (.c .non))) .nil))) (.cons (.c (.bl false)) .nil))))) (.cons (.ret (.c (.bl false))) .nil) .nil) .nil)) .nil))
def unlR : Ss := (.cons (.asg (.name 6) (.lst .nil)) (.cons (.ifs (.op .gt (.bi .len (.cons (.var 4) .nil)) (.c (.int 0))) (.cons (.asg (.name 6) (.lst (.cons (.sl (.var 4) (some ()) none (.c (.int 1)) (.c .non)) .nil))) .nil) .nil) (.cons (.ifs (.op .gt (.bi .len (.cons (.var 4) .nil)) (.c (.int 1))) (.cons (.ex (.bm .list .append (.var 6) (.cons (.op .add (.sl (.var 4) (some ()) none (.c (.int 1)) (.c .non)) (.sl (.var 4) none (some ()) (.c .non) (.c (.int 1)))) .nil))) .nil) .nil) unlF)))
section
variable {P : Prog} {lim k : Nat} {h : AHeap} {Φ : Val → AHeap → Prop} {Ψ : String → Val → AHeap → Prop}
theorem unlike_spec (hU : P "_law_unlike" = some IX.b_law_unlike_k02) (hS : P "_law_same" = some IX.b_law_same) (hI : P ("Interface" ++ ".__init__") = some IX.b_Interface_ini) (hF : P ("Interface" ++ "." ++ "fits") = some IX.b_Interface_fits) (hE : P ("Interface" ++ ".__eq__") = some IX.b_Interface_eqq)
    {rs : List Row} (g : Good rs) {a : Nat} (ha : a < h.next) (hx : h.c a = some (.lst (rs.map Row.v))) (hf : h.Fresh) (hΦ : ∀ h', Grown h h' → Φ (.bl true) h') : WR P lim (k + 10) "_law_unlike" [.ref a, ifcV rs] h Φ Ψ := by
  rw [r_enter hU rfl]
  unfold IX.b_law_unlike_k02 start
  simp only [List.map_cons, List.map_nil, List.cons_append, List.nil_append, Nat.reduceSub, List.replicate]
  have hl1 := g.l1
  have hp := hx
  fail "oo"
  obtain ⟨J, hJ⟩ : ∃ J : Nat → St → Prop, ∀ i s, J i s ↔ ∃ x2 x3 x4 x5 x6 x7 x8 x9 h', Grown h h' ∧ s = ⟨[some (.v (.ref a)), some (.v (ifcV rs)), x2, x3, x4, x5, x6, x7, x8, x9], h'⟩ := ⟨_, fun _ _ => Iff.rfl⟩
  have sm : ∀ {Φ Ψ} {h : AHeap}, Φ (.bl true) h → WR P lim (k + 9) "_law_same" [.bl false, .bl false] h Φ Ψ := fun {Φ Ψ h} z => same_spec hS (k + 9) _ _ _ _ _ rfl rfl (by simp [dep]) z
  refine WF_inv J ((hJ _ _).mpr ⟨_, _, _, _, _, _, _, _, h, Grown.refl hf, rfl⟩) ?_ ?_
  · intro i x s hx0 hs
    obtain ⟨x2, x3, x4, x5, x6, x7, x8, x9, h1, gr, rfl⟩ := (hJ _ _).mp hs
    obtain ⟨hi, rfl⟩ := rngL_some hx0
    have hi2 : i < rs.length := by omega
    rw [Int.zero_add]
    have hJ2 := hJ (i + 1)
    clear hJ hs hx0
    have er : rs[i]? = some rs[i] := List.getElem?_eq_getElem hi2
    have fr := g.f i hi2 _ er
    have parts := fun (x : Row) => set_parts hi2 x
    have ha1 : (rs.map Row.v)[i]? = some (Row.v rs[i]) := by rw [List.getElem?_map, er]; rfl
    generalize hr : rs[i] = r at *
    have e0 := fr.e0
    have e1 := fr.e1
    have im := fr.imps
    have iml := im.l
    have hp : h1.c a = some (.lst (rs.map Row.v)) := (gr.c a ha).trans hx
    have hcut1 : cut (rs.map Row.v) none (some (i : Int)) = (rs.take i).map Row.v := cut_map rs Row.v i
    have hcut2 : cut (rs.map Row.v) (some ((i : Int) + 1)) none = (rs.drop (i + 1)).map Row.v := cut_dropS rs Row.v i
    unfold Row.v at ha1
    have eR : (.cons (.asg (.name 6) (.lst .nil)) (.cons (.ifs (.op .gt (.bi .len (.cons (.var 4) .nil)) (.c (.int 0))) (.cons (.asg (.name 6) (.lst (.cons (.sl (.var 4) (some ()) none (.c (.int 1)) (.c .non)) .nil))) .nil) .nil) (.cons (.ifs (.op .gt (.bi .len (.cons (.var 4) .nil)) (.c (.int 1))) (.cons (.ex (.bm .list .append (.var 6) (.cons (.op .add (.sl (.var 4) (some ()) none (.c (.int 1)) (.c .non)) (.sl (.var 4) none (some ()) (.c .non) (.c (.int 1)))) .nil))) .nil) .nil) (.cons (.for (.name 7) (.rng (.bi .len (.cons (.var 0) .nil))) (.cons (.for (.name 8) (.rng (.ix (.ix (.var 0) (.var 7)) (.c (.int 0)))) (.cons (.ifs (.and (.op .ne (.var 7) (.var 2)) (.and (.op .nmem (.tup (.cons (.var 7) (.cons (.var 8) .nil))) (.var 4)) ((.op .gt (.bi .len (.cons (.var 4) .nil)) (.c (.int 0)))))) (.cons (.ex (.bm .list .append (.var 6) (.cons (.op .add (.sl (.var 4) (some ()) none (.c (.int 1)) (.c .non)) (.lst (.cons (.tup (.cons (.var 7) (.cons (.var 8) .nil))) .nil))) .nil))) .nil) .nil) .nil)) .nil)) (.cons (.for (.name 9) (.seq (.sl (.var 6) none (some ()) (.c .non) (.c (.int 4)))) (.cons (.ifs (.not ((.call "_law_same" (.cons (.eqo "Interface" (.var 1) (.mk "Interface" (.cons (.op .add (.op .add (.sl (.var 0) none (some ()) (.c .non) (.var 2)) (.lst (.cons (.tup (.cons (.var 3) (.cons (.var 9) .nil))) .nil))) (.sl (.var 0) (some ()) none (.op .add (.var 2) (.c (.int 1))) (.c .non))) .nil))) (.cons (.c (.bl false)) .nil))))) (.cons (.ret (.c (.bl false))) .nil) .nil) .nil)) .nil))))) = unlR := rfl
    rw [eR]
    clear eR
    generalize hK : kSq (G P lim (k + 9)) (kOutX Ψ) (kOut Φ) (Ss.cons (S.ret (E.c (Val.bl true))) Ss.nil) = K
    have eV : ∀ (e : Int) (l : List (Int × Int)), (rs.take i).map Row.v ++ [Val.tup [.int e, .lst (l.map pairV)]] ++ cut (rs.map Row.v) (some ((i : Int) + 1)) none = (rs.set i (e, l)).map Row.v := fun e l => by
      rw [hcut2, ← parts (e, l), List.map_append, List.map_append]
      rfl
    have mk : ∀ (e : Int) (l : List (Int × Int)) {Φ : EV → St → Prop} {Ψ : XK} {σ : List (Option SV)} {h1 : AHeap}, Good (rs.set i (e, l)) → h1.Fresh → Φ (.val (ifcV (rs.set i (e, l)))) ⟨σ, h1.bump⟩ →
        WR P lim (k + 9) ("Interface" ++ ".__init__") [.ref h1.next, .lst ((rs.take i).map Row.v ++ [Val.tup [.int e, .lst (l.map pairV)]] ++ cut (rs.map Row.v) (some ((i : Int) + 1)) none)] (h1.new (.ins "Interface" [])) (kMk1 Φ "Interface" h1.next σ) (kExc Ψ σ) := fun e l {Φ Ψ σ h1} gd hf z => by
      rw [eV]
      exact interface_any (k := k + 7) hI hF gd.any hf (fun _ => z) (fun b h' hb _ _ _ => (hb.no gd).elim)
    have ln : ∀ (e : Int) (l : List (Int × Int)), ((rs.take i).map Row.v ++ [Val.tup [.int e, .lst (l.map pairV)]]).length + (cut (rs.map Row.v) (some ((i : Int) + 1)) none).length ≤ 1000 := fun e l => by
      have := congrArg List.length (eV e l)
      rw [List.length_append] at this
      rw [this, List.length_map, List.length_set]
      omega
    have ln2 : (rs.take i).length ≤ 1000 := by rw [List.length_take]; omega
    have rest : ∀ x5 h1, Grown h h1 → WS (G P lim (k + 9)) unlR ⟨[some (.v (.ref a)), some (.v (ifcV rs)), some (.v (.int (i : Int))), some (.v (.int r.1)), some (.v (.lst (r.2.map pairV))), x5, x6, x7, x8, x9], h1⟩ (kI2 J K i) (kOutX Ψ) := by
      intro x5 h1 gr
      have restF : ∀ (cs : List (List (Int × Int))) x5 x7 x8 x9 h1, (∀ l, l ∈ cs → Chg rs i r.2 l) → cs.length ≤ 2 → Grown h h1 → WS (G P lim (k + 9)) unlF ⟨[some (.v (.ref a)), some (.v (ifcV rs)), some (.v (.int (i : Int))), some (.v (.int r.1)), some (.v (.lst (r.2.map pairV))), x5, some (.own (cs.map fun l => .lst (l.map pairV))), x7, x8, x9], h1⟩ (kI2 J K i) (kOutX Ψ) := by
        intro cs x5 x7 x8 x9 h1 hcs hcl gr
        have hp : h1.c a = some (.lst (rs.map Row.v)) := (gr.c a ha).trans hx
        unfold unlF
        fail "oo"
        rw [Int.toNat_natCast]
        obtain ⟨I, hI⟩ : ∃ I : Nat → St → Prop, ∀ o s, I o s ↔ ∃ x7 x8, ∃ cs : List (List (Int × Int)), (∀ l, l ∈ cs → Chg rs i r.2 l) ∧ cs.length ≤ 2 + 8 * o ∧
          s = ⟨[some (.v (.ref a)), some (.v (ifcV rs)), some (.v (.int (i : Int))), some (.v (.int r.1)), some (.v (.lst (r.2.map pairV))), x5, some (.own (cs.map fun l => .lst (l.map pairV))), x7, x8, x9], h1⟩ := ⟨_, fun _ _ => Iff.rfl⟩
        refine WF_inv I ((hI _ _).mpr ⟨_, _, cs, hcs, by omega, rfl⟩) ?_ ?_
        · intro o x s hx0 hs
          obtain ⟨x7, x8, cs, hcs, hcl, rfl⟩ := (hI _ _).mp hs
          obtain ⟨ho, rfl⟩ := rngL_some hx0
          rw [Int.zero_add]
          have fo := g.f o ho _ (List.getElem?_eq_getElem ho)
          have fo0 := fo.e0
          have fo1 := fo.e1
          have hI2 := hI (o + 1)
          clear hI hs hx0
          have ha1 : (rs.map Row.v)[o]? = some (Row.v rs[o]) := by rw [List.getElem?_map, List.getElem?_eq_getElem ho]; rfl
          have ego : rs[o]? = some rs[o] := List.getElem?_eq_getElem ho
          generalize hro : rs[o] = ro at *
          unfold Row.v at ha1
          fail "oo"
          rw [hro]
          obtain ⟨e, he⟩ := Int.eq_ofNat_of_zero_le (show 0 ≤ ro.1 by omega)
          rw [he, Int.toNat_natCast]
          refine ⟨bdI (by omega) (by omega), ?_⟩
          obtain ⟨I3, hI3⟩ : ∃ I3 : Nat → St → Prop, ∀ w s, I3 w s ↔ ∃ x8, ∃ cs : List (List (Int × Int)), (∀ l, l ∈ cs → Chg rs i r.2 l) ∧ cs.length ≤ 2 + 8 * o + w ∧
            s = ⟨[some (.v (.ref a)), some (.v (ifcV rs)), some (.v (.int (i : Int))), some (.v (.int r.1)), some (.v (.lst (r.2.map pairV))), x5, some (.own (cs.map fun l => .lst (l.map pairV))), some (.v (.int (o : Int))), x8, x9], h1⟩ := ⟨_, fun _ _ => Iff.rfl⟩
          refine WF_inv I3 ((hI3 _ _).mpr ⟨_, cs, hcs, by omega, rfl⟩) ?_ ?_
          · intro w x s hx0 hs
            obtain ⟨x8, cs, hcs, hcl, rfl⟩ := (hI3 _ _).mp hs
            obtain ⟨hw, rfl⟩ := rngL_some hx0
            rw [Int.zero_add]
            have hI4 := hI3 (w + 1)
            clear hI3 hs hx0
            have hal : (cs.map fun l => Val.lst (l.map pairV)).length ≤ 1000 := by rw [List.length_map]; omega
            have stay : ∀ x8, I3 (w + 1) ⟨[some (.v (.ref a)), some (.v (ifcV rs)), some (.v (.int (i : Int))), some (.v (.int r.1)), some (.v (.lst (r.2.map pairV))), x5, some (.own (cs.map fun l => .lst (l.map pairV))), some (.v (.int (o : Int))), x8, x9], h1⟩ := fun x8 => (hI4 _).mpr ⟨_, cs, hcs, by omega, rfl⟩
            have nm : ∀ (st : St) (Φ : EV → St → Prop) (Ψ : XK), W2 .nmem (.val (.tup [.int (o : Int), .int (w : Int)])) (.val (.lst (r.2.map pairV))) st Φ Ψ = Φ (.val (.bl (!decide (((o : Int), (w : Int)) ∈ r.2)))) st := fun st Φ Ψ => o_nmemQ (q := ((o : Int), (w : Int))) rfl
            have po : o ≠ i → PairOk rs i ((o : Int), (w : Int)) := fun h => ⟨by simp only; omega, by simp only; omega, by simp only; omega, by simp only; omega, fun r2 h2 => by
              rw [Int.toNat_natCast, ego] at h2
              cases h2
              simp only
              omega⟩
            clear hp
            have d1 : cut (r.2.map pairV) (some 1) none = (r.2.drop 1).map pairV := by rw [cut_d1', List.map_drop]
            fail "oo"
            · rw [nm]
              fail "oo"
              · rw [d1]
                have eL : (cs.map fun l => Val.lst (l.map pairV)) ++ [Val.lst ((r.2.drop 1).map pairV ++ [Val.tup [.int (o : Int), .int (w : Int)]])] = (cs ++ [r.2.drop 1 ++ [((o : Int), (w : Int))]]).map fun l => Val.lst (l.map pairV) := by
                  simp only [List.map_append, List.map_cons, List.map_nil, pairV]
                rw [eL]
                refine ⟨by rw [List.length_map, List.length_drop]; omega, by omega, (hI4 _).mpr ⟨_, _, fun l hl => ?_, by simp only [List.length_append, List.length_cons, List.length_nil]; omega, rfl⟩⟩
                rcases List.mem_append.mp hl with hl | hl
                · exact hcs l hl
                · simp only [List.mem_cons, List.not_mem_nil, or_false] at hl
                  subst hl
                  exact chg_new im (by assumption) (po (by omega))
              · exact stay _
              · exact stay _
            · exact stay _
          · intro s hs
            obtain ⟨x8, cs, hcs, hcl, rfl⟩ := (hI3 _ _).mp hs
            rw [rngL_len] at hcl
            fail "oo"
            exact (hI2 _).mpr ⟨_, _, cs, hcs, by omega, rfl⟩
        · intro s hs
          obtain ⟨x7, x8, cs, hcs, hcl, rfl⟩ := (hI _ _).mp hs
          rw [rngL_len] at hcl
          fail "oo"
          have hc4 : cut (cs.map fun l => Val.lst (l.map pairV)) none (some 4) = (cs.take 4).map fun l => Val.lst (l.map pairV) := cut_map cs (fun l => Val.lst (l.map pairV)) 4
          rw [hc4]
          obtain ⟨L, hL⟩ : ∃ L : Nat → St → Prop, ∀ n s, L n s ↔ ∃ x9 h', Grown h h' ∧
            s = ⟨[some (.v (.ref a)), some (.v (ifcV rs)), some (.v (.int (i : Int))), some (.v (.int r.1)), some (.v (.lst (r.2.map pairV))), x5, some (.own (cs.map fun l => .lst (l.map pairV))), x7, x8, x9], h'⟩ := ⟨_, fun _ _ => Iff.rfl⟩
          refine WF_inv L ((hL _ _).mpr ⟨_, h1, gr, rfl⟩) ?_ ?_
          · intro n x s hx0 hs
            obtain ⟨x9, h2, gr2, rfl⟩ := (hL _ _).mp hs
            rw [List.getElem?_map] at hx0
            cases e : (cs.take 4)[n]? with
            | none => rw [e] at hx0; cases hx0
            | some l =>
              rw [e] at hx0
              simp only [Option.map_some, Option.some.injEq] at hx0
              subst hx0
              have ch := hcs l (List.mem_of_mem_take (List.mem_of_getElem? e))
              have gd := g.set er (e := r.1) (Int.le_refl _) (by omega) ch.i
              have hp : h2.c a = some (.lst (rs.map Row.v)) := (gr2.c a ha).trans hx
              have l1 := ln r.1 l
              fail "oo"
              unfold kEqo1
              fail "oo"
              refine mk r.1 l gd gr2.f ?_
              have gr3 := gr2.bump
              generalize h2.bump = h3 at *
              fail "oo"
              refine eqo_step (C := "Interface") (ifc_eq_spec (k := k + 8) hE _ _ ⟨_, rfl, ?_⟩)
              rw [decide_eq_false (fun e => set_ne er (fun e => ch.ne (by have := congrArg Prod.snd e; exact this)) e.symm)]
              fail "oo"
              refine sm ?_
              fail "oo"
              exact (hL _ _).mpr ⟨_, h3, gr3, rfl⟩
          · intro s hs
            obtain ⟨x9, h2, gr2, rfl⟩ := (hL _ _).mp hs
            fail "oo"
            exact (hJ2 _).mpr ⟨_, _, _, _, _, _, _, _, h2, gr2, rfl⟩
      unfold unlR
      have d1 : cut (r.2.map pairV) (some 1) none = (r.2.drop 1).map pairV := by rw [cut_d1', List.map_drop]
      have t1 : cut (r.2.map pairV) none (some 1) = (r.2.take 1).map pairV := by rw [cut_t1', List.map_take]
      fail "oo"
      all_goals try (exfalso; omega)
      · rw [d1, t1]
        refine ⟨by simp only [List.length_map, List.length_drop, List.length_take]; omega, ?_⟩
        have eL : [Val.lst ((r.2.drop 1).map pairV), .lst ((r.2.drop 1).map pairV ++ (r.2.take 1).map pairV)] = [r.2.drop 1, r.2.drop 1 ++ r.2.take 1].map fun l => Val.lst (l.map pairV) := by
          simp only [List.map_cons, List.map_nil, List.map_append]
        rw [eL]
        refine restF _ _ _ _ _ _ (fun l hl => ?_) (by simp) gr
        simp only [List.mem_cons, List.not_mem_nil, or_false] at hl
        rcases hl with rfl | rfl
        · exact chg_tail im (by omega)
        · exact chg_turn im (by omega)
      · rw [d1]
        refine restF [r.2.drop 1] _ _ _ _ _ (fun l hl => ?_) (by simp) gr
        simp only [List.mem_cons, List.not_mem_nil, or_false] at hl
        subst hl
        exact chg_tail im (by omega)
      · exact restF [] _ _ _ _ _ (fun l hl => by cases hl) (by simp) gr
    fail "oo"
    · have gd := g.set er (e := r.1 + 1) (by omega) (by rw [hr] at hq; omega) im
      rw [hr]
      refine ⟨by have := ln (r.1 + 1) r.2; omega, ?_⟩
      refine mk _ _ gd gr.f ?_
      have gr2 := gr.bump
      generalize h1.bump = h2 at *
      fail "oo"
      unfold kEqo1
      fail "oo"
      refine eqo_step (C := "Interface") (ifc_eq_spec (k := k + 8) hE _ _ ⟨_, rfl, ?_⟩)
      rw [decide_eq_false (set_ne er (fun e => by have := congrArg Prod.fst e; simp only at this; omega))]
      fail "oo"
      refine sm ?_
      fail "oo"
      exact rest _ h2 gr2
    · rw [hr]
      exact rest _ h1 gr
  · intro s hs
    obtain ⟨x2, x3, x4, x5, x6, x7, x8, x9, h1, gr, rfl⟩ := (hJ _ _).mp hs
    fail "oo"
    exact hΦ h1 gr
end
end IA

set_option Elab.async false
set_option linter.all false
set_option maxRecDepth 100000
set_option maxHeartbeats 4000000
/-! ## Steps on dicts; loops over lists of the heap (own text) -/
namespace IA
section
variable {Γ : Env} {Ψ : XK} {ΦX : Flow → St → Prop} {Φ : EV → St → Prop} {ΦI : Src → St → Prop} {ΦG : St → Prop} {t : Tg} {A : Ss} {c e : E} {own : List Nat} {n : Nat} {k : String} {v : Val} {vs : List Val} {σ : List (Option SV)} {h : AHeap} {s : St} {fs : List (String × Val)} {ks : List String}
def kSrc (ΦI : Src → St → Prop) (n : Nat) (en : Bool) (s : St) : Option Cell → Prop
  | some (.lst _) => ΦI (.ref n en) s
  | _ => False
theorem sq_r {en : Bool} : kSeq Ψ ΦI en (.val (.ref n)) ⟨σ, h⟩ = kSrc ΦI n en ⟨σ, h⟩ (h.c n) := by
  unfold kSeq srcOf
  simp only
  cases h.c n with
  | none => rfl
  | some c => cases c <;> rfl
theorem sr_l {en : Bool} : kSrc ΦI n en s (some (.lst vs)) = ΦI (.ref n en) s := Eq.trans rfl rfl
theorem co_r {en : Bool} : kComp Γ Φ t c e own (.ref n en) s = WCr Γ Φ t c e own n en Γ.lim 0 [] s := Eq.trans rfl rfl
theorem ci_r {P : Prog} {lim k : Nat} : (G P lim k).lim = lim := rfl
/-- a comprehension over a list of the heap that stays -/
theorem WCr_inv (I : Nat → List Val → St → Prop) {xs : List Val} {m : Nat} (hm : xs.length < m) {s : St} (h0 : I 0 [] s) (hI : ∀ i acc s, I i acc s → s.h.c n = some (.lst xs))
    (hs : ∀ (i : Nat) (x : Val) acc s, xs[i]? = some x → I i acc s → WG Γ t (.val x) ⟨wipe s.σ own, s.h⟩ (kJ0 Γ c e I i acc) (fun _ _ _ => False)) (hd : ∀ acc s, I xs.length acc s → Φ (.new acc) ⟨wipe s.σ own, s.h⟩) : WCr Γ Φ t c e own n false m 0 [] s := by
  have key : ∀ (m i : Nat) (acc : List Val) (s : St), xs.length - i < m → i ≤ xs.length → I i acc s → WCr Γ Φ t c e own n false m i acc s := by
    intro m
    induction m with
    | zero => intro i acc s h1; omega
    | succ m ih =>
      intro i acc s h1 h2 q
      unfold WCr
      rw [compR, W_get]
      have hc := hI i acc s q
      have e1 : itemAt n false i s = some (xs[i]?) := by
        unfold itemAt
        rw [hc]
        simp
      rw [e1, kO_some]
      by_cases hi : i < xs.length
      · have ex := List.getElem?_eq_getElem hi
        rw [ex]
        simp only
        rw [W_bind]
        unfold bodyC
        rw [W_bind]
        have z := hs i _ acc s ex q
        unfold WG at z
        refine W.mono z (fun _ s1 h3 => ?_) fun _ _ _ z => z
        rw [W_bind]
        unfold kJ0 WT at h3
        refine W.mono h3 (fun k s2 h4 => ?_) fun _ _ _ z => z
        cases k with
        | false => exact ih (i + 1) acc s2 (by omega) hi h4
        | true =>
          simp only [if_true]
          rw [W_bind]
          unfold kJ1 WE at h4
          simp only [if_true] at h4
          refine W.mono h4 (fun y s3 h5 => ?_) fun _ _ _ z => z
          unfold kJ2 WK at h5
          rw [keep_W] at h5 ⊢
          refine W.mono h5 (fun v s4 h6 => ?_) fun _ _ _ z => z
          rw [W_ok]
          simp only
          rw [W_chk]
          exact ⟨h6.1, ih (i + 1) _ s4 (by omega) hi h6.2⟩
      · have h3 : i = xs.length := by omega
        subst h3
        rw [List.getElem?_eq_none (Nat.le_refl _)]
        exact hd acc s q
  exact key m 0 [] s (by omega) (Nat.zero_le _) h0
end
end IA

set_option Elab.async false
set_option linter.all false
set_option maxRecDepth 100000
set_option maxHeartbeats 4000000
/-! ## Frames: entering a procedure, leaving it (own text) -/
namespace IA
set_option hygiene false in
local macro_rules | `(tactic| fail "st") => `(tactic| first | simp only [hp, r_c, r_var, r_op, r_tup, r_lst, r_ix, r_fld, r_bi, r_bm, r_call, r_mk, r_heap, t_op, t_fld, t_not, b_nil, b_cons, v_nil, v_cons, g_name, g_tup, g_fld, gs_nil, gs_cons, s_nil, s_cons, x_asg, x_ret, x_ex, x_ifs, x_augS, o_addI, o_addN, o_sub, rep_c, o_gt, if_t, nt, tr_b, va_v, kp_v, li_r, sc_l, bi_lenR, bi_append, ix_t, ix_l, ix_r, st_set, put_r, hp_get, fl_n, fl_r, ou_n, ou_r, ca_G, re_t, u_kOp1, u_kOp2, u_kTup, u_kLst, u_kIx1, u_kFld, u_kBi, u_kBm, u_kBm1, u_kVl, u_kB1, u_kB2, u_kV1, u_kV2, u_kV3, u_kFst1, u_kFst2, u_kGs, u_kNx, u_kAsg, u_kRt, u_kRetS, u_kEx, u_kASa, u_kAS1, u_kAS2, u_kAS3, u_kAS4, u_kLen, u_kAp, kHeap, u_kPut, u_kPut1, kO_some, true_and, and_true, List.length_cons, List.length_nil, List.getElem?_cons_zero, List.getElem?_cons_succ, List.set_cons_zero, List.set_cons_succ, Nat.reduceAdd, szL, Nat.reduceLeDiff, List.nil_append, List.cons_append, Bool.not_true, Bool.not_false, recvOk, Option.isSome_some, Int.reduceToNat, List.length_map] | simp only [r_c, r_var, r_op, r_tup, r_lst, r_ix, r_fld, r_bi, r_bm, r_call, r_mk, r_heap, t_op, t_fld, t_not, b_nil, b_cons, v_nil, v_cons, g_name, g_tup, g_fld, gs_nil, gs_cons, s_nil, s_cons, x_asg, x_ret, x_ex, x_ifs, x_augS, o_addI, o_addN, o_sub, rep_c, o_gt, if_t, nt, tr_b, va_v, kp_v, li_r, sc_l, bi_lenR, bi_append, ix_t, ix_l, ix_r, st_set, put_r, hp_get, fl_n, fl_r, ou_n, ou_r, ca_G, re_t, u_kOp1, u_kOp2, u_kTup, u_kLst, u_kIx1, u_kFld, u_kBi, u_kBm, u_kBm1, u_kVl, u_kB1, u_kB2, u_kV1, u_kV2, u_kV3, u_kFst1, u_kFst2, u_kGs, u_kNx, u_kAsg, u_kRt, u_kRetS, u_kEx, u_kASa, u_kAS1, u_kAS2, u_kAS3, u_kAS4, u_kLen, u_kAp, kHeap, u_kPut, u_kPut1, kO_some, true_and, and_true, List.length_cons, List.length_nil, List.getElem?_cons_zero, List.getElem?_cons_succ, List.set_cons_zero, List.set_cons_succ, Nat.reduceAdd, szL, Nat.reduceLeDiff, List.nil_append, List.cons_append, Bool.not_true, Bool.not_false, recvOk, Option.isSome_some, Int.reduceToNat, List.length_map])
set_option hygiene false in
local macro_rules | `(tactic| fail "qs") => `(tactic| first
  | with_reducible refine if_s (fun hq => ?_) (fun hq => ?_)
  | with_reducible refine at_s (fun hq => ?_) (fun hq => ?_)
  | with_reducible refine ot_s (fun hq => ?_) (fun hq => ?_)
  | with_reducible refine it_s (fun hq => ?_) (fun hq => ?_)
  | with_reducible refine ad_s (fun hq => ?_) (fun hq => ?_)
  | with_reducible refine or_s (fun hq => ?_) (fun hq => ?_)
  | with_reducible refine ch_s (fun hq => ?_) (fun hq => ?_)
  | with_reducible refine c1_s (fun hq => ?_) (fun hq => ?_))
local macro_rules | `(tactic| fail "sd") => `(tactic| first
  | assumption
  | omega
  | exact smR (by omega) (by omega)
  | exact bdI (by omega) (by omega)
  | exact And.intro (bdI (by omega) (by omega)) (bdI (by omega) (by omega))
  | exact smL (by omega) (by omega)
  | decide)
set_option hygiene false in
local macro_rules | `(tactic| fail "g1") => `(tactic| first
  | fail "st"
  | (fail "qs" <;> (try simp only [decide_eq_true_eq, decide_eq_false_iff_not, Bool.not_eq_true', Bool.not_eq_false', beq_iff_eq, bne_iff_ne, ne_eq, Int.not_le, Int.not_lt] at hq))
  | ((with_reducible apply And.intro); (case left => fail "sd"))
  | fail "none")
set_option hygiene false in
local macro_rules | `(tactic| fail "go") => `(tactic| repeat' fail "g1")
set_option hygiene false in
local macro_rules | `(tactic| fail "ha") => `(tactic| first
  | assumption
  | exact HasA.set (by assumption)
  | fail "none")
set_option hygiene false in
local macro_rules | `(tactic| fail "dr") => `(tactic| first
  | (with_reducible refine draw_A hD (by fail "ha") (by omega) (by omega) ?_; intro v c hc hv0 hv1)
  | (with_reducible refine spend_A hS (by fail "ha") ?_; intro b c hc)
  | (with_reducible refine number_A hD hN (by fail "ha") ?_; intro v c hc hv0 hv1)
  | (with_reducible refine few_A hD hF (by fail "ha") (by omega) (by omega) ?_; intro v c hc hv0 hv1)
  | fail "none")
set_option hygiene false in
local macro_rules | `(tactic| fail "gd") => `(tactic| repeat' (first | fail "g1" | fail "dr" | fail "none"))

set_option hygiene false in
local macro_rules | `(tactic| fail "ob") => `(tactic| simp only [fd_o, fd_r, cf_i, fs_r, cs_i, pf_n, pf_c, hn_get, hn_set, hn_next, hs_next, mk_G, as_i, a2_add, a2_sub, si_i, mk_F, List.length_replicate, Int.add_sub_cancel, bi_pop, List.map_cons, List.map_nil, pop_one, tr_r, kTrL, em_nil, String.reduceEq, reduceIte, List.mem_cons, List.not_mem_nil, or_false, true_and, and_true, kO_some, u_kVl, List.length_cons, List.length_nil, Nat.reduceAdd, Nat.reduceLT, eq_self, Bool.true_and, look])
set_option hygiene false in
local macro_rules | `(tactic| fail "ma") => `(tactic| first | (rw [at_e ha1]) | (rw [at_e ha2]) | (rw [at_e ha3]) | (rw [at_e ha4]) | (rw [ati_e ha1]) | (rw [ati_e ha2]) | (rw [ati_e ha3]) | (rw [ati_e ha4]) | (rw [at_n (by (first | omega | (rw [List.length_map]; omega)))]; try rw [List.getElem_map]) | (rw [ix_nat (by (first | omega | (simp only [List.length_map, List.length_replicate]; omega)))]))
local macro_rules | `(tactic| fail "sx") => `(tactic| first | omega | (simp only [hs_next, hn_next]; omega))
local macro_rules | `(tactic| fail "rd") => `(tactic| repeat' (first | rw [hp_get] | (rw [hs_ne (by fail "sx")]) | (rw [hn_get2 (by first | rfl | fail "sx")]) | (rw [hn_ne (by fail "sx")]) | rw [hb_c]))
set_option hygiene false in
local macro_rules | `(tactic| fail "oo") => `(tactic| repeat' (first | fail "st" | simp only [hx] | simp only [hy] | simp only [hz] | simp only [hu] | simp only [hv] | simp only [hw] | fail "ob" | (with_reducible refine hw1 _ _ _ ?_) | (with_reducible refine hw2 _ _ _ ?_) | (with_reducible refine hw3 _ _ _ ?_)  | (rw [hs_ne (by omega)]) | (rw [hn_ne (by (first | omega | (simp only [hs_next, hn_next]; omega)))]) | fail "ma" | fail "dr" | fail "g1" | fail "none"))
set_option hygiene false in
local macro_rules | `(tactic| fail "on") => `(tactic| repeat' (first | fail "st" | simp only [hx] | simp only [hy] | simp only [hz] | simp only [hu] | simp only [hv] | simp only [hw] | fail "ob" | (with_reducible refine hw1 _ _ _ ?_) | (with_reducible refine hw2 _ _ _ ?_) | (with_reducible refine hw3 _ _ _ ?_)  | (rw [hs_ne (by omega)]) | (rw [hn_ne (by (first | omega | (simp only [hs_next, hn_next]; omega)))]) | fail "ma" | fail "dr" | ((with_reducible apply And.intro); (case left => fail "sd")) | fail "none"))

section
variable {P : Prog} {lim k : Nat} {h : AHeap} {σ : List (Option SV)}
def zeros (n : Nat) : List Int := List.replicate n 0
end
end IA

set_option Elab.async false
set_option linter.all false
set_option maxRecDepth 100000
set_option maxHeartbeats 4000000
/-! ## Steps of a run (own text) -/
namespace IA
set_option hygiene false in
local macro_rules | `(tactic| fail "st") => `(tactic| first | simp only [hp, r_c, r_var, r_op, r_isn, r_isnt, r_ite, r_neg, r_tup, r_ix, r_fld, r_bi, r_meth, t_op, t_isn, t_isnt, b_nil, b_cons, v_nil, v_cons, g_name, g_tup, g_sub, g_fld, gs_nil, gs_cons, s_nil, s_cons, x_asg, x_ex, x_ifs, x_augF, o_sub, o_eqS, if_t, if_f, it_t, it_f, tr_b, in_t, nn_n, nn_i, va_v, kp_v, li_r, sc_l, bi_lenT, ix_t, ix_r, at_0, at_1, at_2, st_set, su_i, put_r, hp_get, fl_n, ou_n, re_t, u_kOp1, u_kOp2, kNeg, u_kTup, u_kIx1, u_kFld, u_kBi, u_kVl, u_kB1, u_kB2, u_kV1, u_kV2, u_kV3, u_kSub1, u_kSub2, u_kFst1, u_kFst2, u_kGs, u_kNx, u_kAsg, u_kEx, kMeth1, u_kPut, u_kPut1, kO_some, true_and, and_true, List.length_cons, List.length_nil, List.getElem?_cons_zero, List.getElem?_cons_succ, List.set_cons_zero, List.set_cons_succ, Nat.reduceAdd, szL, Nat.reduceLeDiff, List.nil_append, List.cons_append, decide_true, decide_false, Int.reduceToNat, List.length_map] | simp only [r_c, r_var, r_op, r_isn, r_isnt, r_ite, r_neg, r_tup, r_ix, r_fld, r_bi, r_meth, t_op, t_isn, t_isnt, b_nil, b_cons, v_nil, v_cons, g_name, g_tup, g_sub, g_fld, gs_nil, gs_cons, s_nil, s_cons, x_asg, x_ex, x_ifs, x_augF, o_sub, o_eqS, if_t, if_f, it_t, it_f, tr_b, in_t, nn_n, nn_i, va_v, kp_v, li_r, sc_l, bi_lenT, ix_t, ix_r, at_0, at_1, at_2, st_set, su_i, put_r, hp_get, fl_n, ou_n, re_t, u_kOp1, u_kOp2, kNeg, u_kTup, u_kIx1, u_kFld, u_kBi, u_kVl, u_kB1, u_kB2, u_kV1, u_kV2, u_kV3, u_kSub1, u_kSub2, u_kFst1, u_kFst2, u_kGs, u_kNx, u_kAsg, u_kEx, kMeth1, u_kPut, u_kPut1, kO_some, true_and, and_true, List.length_cons, List.length_nil, List.getElem?_cons_zero, List.getElem?_cons_succ, List.set_cons_zero, List.set_cons_succ, Nat.reduceAdd, szL, Nat.reduceLeDiff, List.nil_append, List.cons_append, decide_true, decide_false, Int.reduceToNat, List.length_map])
set_option hygiene false in
local macro_rules | `(tactic| fail "qs") => `(tactic| first
  | with_reducible refine if_s (fun hq => ?_) (fun hq => ?_)
  | with_reducible refine at_s (fun hq => ?_) (fun hq => ?_)
  | with_reducible refine ot_s (fun hq => ?_) (fun hq => ?_)
  | with_reducible refine it_s (fun hq => ?_) (fun hq => ?_)
  | with_reducible refine ad_s (fun hq => ?_) (fun hq => ?_)
  | with_reducible refine or_s (fun hq => ?_) (fun hq => ?_)
  | with_reducible refine ch_s (fun hq => ?_) (fun hq => ?_)
  | with_reducible refine c1_s (fun hq => ?_) (fun hq => ?_))
local macro_rules | `(tactic| fail "sd") => `(tactic| first
  | assumption
  | omega
  | exact smR (by omega) (by omega)
  | exact bdI (by omega) (by omega)
  | exact And.intro (bdI (by omega) (by omega)) (bdI (by omega) (by omega))
  | exact smL (by omega) (by omega)
  | decide)
set_option hygiene false in
local macro_rules | `(tactic| fail "g1") => `(tactic| first
  | fail "st"
  | (fail "qs" <;> (try simp only [decide_eq_true_eq, decide_eq_false_iff_not, Bool.not_eq_true', Bool.not_eq_false', beq_iff_eq, bne_iff_ne, ne_eq, Int.not_le, Int.not_lt] at hq))
  | ((with_reducible apply And.intro); (case left => fail "sd"))
  | fail "none")
set_option hygiene false in
local macro_rules | `(tactic| fail "go") => `(tactic| repeat' fail "g1")
set_option hygiene false in
local macro_rules | `(tactic| fail "ha") => `(tactic| first
  | assumption
  | exact HasA.set (by assumption)
  | fail "none")
set_option hygiene false in
local macro_rules | `(tactic| fail "dr") => `(tactic| first
  | (with_reducible refine draw_A hD (by fail "ha") (by omega) (by omega) ?_; intro v c hc hv0 hv1)
  | (with_reducible refine spend_A hS (by fail "ha") ?_; intro b c hc)
  | (with_reducible refine number_A hD hN (by fail "ha") ?_; intro v c hc hv0 hv1)
  | (with_reducible refine few_A hD hF (by fail "ha") (by omega) (by omega) ?_; intro v c hc hv0 hv1)
  | fail "none")
set_option hygiene false in
local macro_rules | `(tactic| fail "gd") => `(tactic| repeat' (first | fail "g1" | fail "dr" | fail "none"))

set_option hygiene false in
local macro_rules | `(tactic| fail "ob") => `(tactic| simp only [fd_r, cf_i, fs_r, cs_i, pf_n, pf_c, a2_add, af_r, cg_i, u_kAF1, u_kAF2, u_kAF3, u_kAF4, G_call, List.map_cons, List.map_nil, cs3, at_lone, Row.v, at_last, ic_c, ic_i, o_memW, u_kMeth, String.reduceEq, reduceIte, List.mem_cons, List.not_mem_nil, or_false, or_true, true_and, and_true, kO_some, u_kVl, List.length_cons, List.length_nil, Nat.reduceAdd, Nat.reduceLT, eq_self, decide_true, Bool.true_and, look, Option.isNone_none])
set_option hygiene false in
local macro_rules | `(tactic| fail "ma") => `(tactic| first | (rw [at_e ha1]) | (rw [at_e ha2]) | (rw [at_e ha3]) | (rw [at_e ha4]) | (rw [ati_e ha1]) | (rw [ati_e ha2]) | (rw [ati_e ha3]) | (rw [ati_e ha4]) | (rw [at_n (by (first | omega | (rw [List.length_map]; omega)))]; try rw [List.getElem_map]) | (rw [ix_nat (by (first | omega | (simp only [List.length_map]; omega)))]))
local macro_rules | `(tactic| fail "sx") => `(tactic| first | omega | (simp only []; omega))
local macro_rules | `(tactic| fail "rd") => `(tactic| repeat' (first | rw [hp_get] | (rw [hs_ne (by fail "sx")]) | (rw [hn_get2 (by first | rfl | fail "sx")]) | (rw [hn_ne (by fail "sx")]) | rw [hb_c]))
set_option hygiene false in
local macro_rules | `(tactic| fail "oo") => `(tactic| repeat' (first | fail "st" | simp only [hx] | simp only [hy] | simp only [hz] | simp only [hu] | simp only [hv] | simp only [hw] | fail "ob" | (with_reducible refine hw1 _ _ _ ?_) | (with_reducible refine hw2 _ _ _ ?_) | (with_reducible refine hw3 _ _ _ ?_)  | (rw [hs_ne (by omega)]) | (rw [hn_ne (by (first | omega | (simp only []; omega)))]) | fail "ma" | fail "dr" | fail "g1" | fail "none"))
set_option hygiene false in
local macro_rules | `(tactic| fail "on") => `(tactic| repeat' (first | fail "st" | simp only [hx] | simp only [hy] | simp only [hz] | simp only [hu] | simp only [hv] | simp only [hw] | fail "ob" | (with_reducible refine hw1 _ _ _ ?_) | (with_reducible refine hw2 _ _ _ ?_) | (with_reducible refine hw3 _ _ _ ?_)  | (rw [hs_ne (by omega)]) | (rw [hn_ne (by (first | omega | (simp only []; omega)))]) | fail "ma" | fail "dr" | ((with_reducible apply And.intro); (case left => fail "sd")) | fail "none"))

section
variable {P : Prog} {lim k : Nat} {h : AHeap} {q : Nat} {p : PS} {fs : List Val} {fr : Nat} {f : FS} {xs : List Int} {bl : List Nat} {bw : List (List Int)} {Φ : Val → AHeap → Prop} {Ψ : String → Val → AHeap → Prop}
def FS.next (f : FS) (r : Val) : FS := { f with rest := r }
structure Run (P : Prog) : Prop where
  bl : P ("Process" ++ "." ++ "blame") = some IX.b_Process_blame
  cm : P "combine" = some IX.b_combine
  va : P ("Process" ++ "." ++ "value") = some IX.b_Process_value
  st : P ("Process" ++ "." ++ "step") = some IX.b_Process_step
  ac : P ("Process" ++ "." ++ "act") = some IX.b_Process_act
  le : P ("Process" ++ "." ++ "leave") = some IX.b_Process_leave
  en : P ("Process" ++ "." ++ "enter") = some IX.b_Process_enter
  fr : P ("Frame" ++ ".__init__") = some IX.b_Frame_ini
  ch : P "chained" = some IX.b_chained
  pu : P ("Process" ++ "." ++ "put") = some IX.b_Process_put
  ini : P ("Process" ++ ".__init__") = some IX.b_Process_ini
structure RunG (P : Prog) : Prop extends Run P where
  go : P ("Process" ++ "." ++ "go") = some IX.b_Process_go
instance {P : Prog} : Coe (RunG P) (Run P) := ⟨fun r => r.toRun⟩
end
end IA

set_option Elab.async false
set_option linter.all false
set_option maxRecDepth 100000
set_option maxHeartbeats 4000000
/-! ## More steps of a run: put, if, while, the end of a procedure (own text) -/
namespace IA
set_option hygiene false in
local macro_rules | `(tactic| fail "st") => `(tactic| first | simp only [hp, r_c, r_var, r_op, r_isn, r_neg, r_ix, r_fld, r_bi, r_bm, r_meth, t_op, t_isn, t_fld, t_or, t_not, b_nil, b_cons, v_nil, v_cons, g_name, g_sub, s_nil, s_cons, x_asg, x_ret, x_ex, x_ifs, x_augS, o_lt, if_t, if_f, ot_t, ot_f, nt, tr_b, in_n, in_i, va_v, kp_v, li_r, sc_l, bi_lenR, ix_t, ix_l, ix_r, at_1, at_2, at_3, st_set, su_i, put_r, hp_get, fl_n, fl_r, ou_n, ou_r, re_t, u_kOp1, u_kOp2, kNeg, u_kIx1, u_kFld, u_kBi, u_kBm, u_kBm1, u_kVl, u_kB1, u_kB2, u_kV1, u_kV2, u_kV3, u_kSub1, u_kSub2, u_kNx, u_kAsg, u_kRt, u_kRetS, u_kEx, u_kASa, u_kAS1, u_kAS2, u_kAS3, u_kAS4, u_kLen, kMeth1, u_kPut, u_kPut1, kO_some, true_and, List.getElem?_cons_zero, List.getElem?_cons_succ, List.set_cons_zero, List.set_cons_succ, Nat.reduceAdd, Nat.reduceLeDiff, List.nil_append, List.cons_append, decide_true, Bool.not_true, Bool.not_false, recvOk, Option.isSome_some, Int.reduceToNat, List.length_map] | simp only [r_c, r_var, r_op, r_isn, r_neg, r_ix, r_fld, r_bi, r_bm, r_meth, t_op, t_isn, t_fld, t_or, t_not, b_nil, b_cons, v_nil, v_cons, g_name, g_sub, s_nil, s_cons, x_asg, x_ret, x_ex, x_ifs, x_augS, o_lt, if_t, if_f, ot_t, ot_f, nt, tr_b, in_n, in_i, va_v, kp_v, li_r, sc_l, bi_lenR, ix_t, ix_l, ix_r, at_1, at_2, at_3, st_set, su_i, put_r, hp_get, fl_n, fl_r, ou_n, ou_r, re_t, u_kOp1, u_kOp2, kNeg, u_kIx1, u_kFld, u_kBi, u_kBm, u_kBm1, u_kVl, u_kB1, u_kB2, u_kV1, u_kV2, u_kV3, u_kSub1, u_kSub2, u_kNx, u_kAsg, u_kRt, u_kRetS, u_kEx, u_kASa, u_kAS1, u_kAS2, u_kAS3, u_kAS4, u_kLen, kMeth1, u_kPut, u_kPut1, kO_some, true_and, List.getElem?_cons_zero, List.getElem?_cons_succ, List.set_cons_zero, List.set_cons_succ, Nat.reduceAdd, Nat.reduceLeDiff, List.nil_append, List.cons_append, decide_true, Bool.not_true, Bool.not_false, recvOk, Option.isSome_some, Int.reduceToNat, List.length_map])
set_option hygiene false in
local macro_rules | `(tactic| fail "qs") => `(tactic| first
  | with_reducible refine if_s (fun hq => ?_) (fun hq => ?_)
  | with_reducible refine at_s (fun hq => ?_) (fun hq => ?_)
  | with_reducible refine ot_s (fun hq => ?_) (fun hq => ?_)
  | with_reducible refine it_s (fun hq => ?_) (fun hq => ?_)
  | with_reducible refine ad_s (fun hq => ?_) (fun hq => ?_)
  | with_reducible refine or_s (fun hq => ?_) (fun hq => ?_)
  | with_reducible refine ch_s (fun hq => ?_) (fun hq => ?_)
  | with_reducible refine c1_s (fun hq => ?_) (fun hq => ?_))
local macro_rules | `(tactic| fail "sd") => `(tactic| first
  | assumption
  | omega
  | exact smR (by omega) (by omega)
  | exact bdI (by omega) (by omega)
  | exact And.intro (bdI (by omega) (by omega)) (bdI (by omega) (by omega))
  | exact smL (by omega) (by omega)
  | decide)
set_option hygiene false in
local macro_rules | `(tactic| fail "g1") => `(tactic| first
  | fail "st"
  | (fail "qs" <;> (try simp only [decide_eq_true_eq, decide_eq_false_iff_not, Bool.not_eq_true', Bool.not_eq_false', beq_iff_eq, bne_iff_ne, ne_eq, Int.not_le, Int.not_lt] at hq))
  | ((with_reducible apply And.intro); (case left => fail "sd"))
  | fail "none")
set_option hygiene false in
local macro_rules | `(tactic| fail "go") => `(tactic| repeat' fail "g1")
set_option hygiene false in
local macro_rules | `(tactic| fail "ha") => `(tactic| first
  | assumption
  | exact HasA.set (by assumption)
  | fail "none")
set_option hygiene false in
local macro_rules | `(tactic| fail "dr") => `(tactic| first
  | (with_reducible refine draw_A hD (by fail "ha") (by omega) (by omega) ?_; intro v c hc hv0 hv1)
  | (with_reducible refine spend_A hS (by fail "ha") ?_; intro b c hc)
  | (with_reducible refine number_A hD hN (by fail "ha") ?_; intro v c hc hv0 hv1)
  | (with_reducible refine few_A hD hF (by fail "ha") (by omega) (by omega) ?_; intro v c hc hv0 hv1)
  | fail "none")
set_option hygiene false in
local macro_rules | `(tactic| fail "gd") => `(tactic| repeat' (first | fail "g1" | fail "dr" | fail "none"))

set_option hygiene false in
local macro_rules | `(tactic| fail "ob") => `(tactic| simp only [fd_r, cf_i, as_i, a2_sub, si_i, G_call, bi_pop, List.map_cons, List.map_nil, pop_app, Row.v, at_last, tr_r, kTrL, em_app, ic_c, ic_i, u_kMeth, String.reduceEq, reduceIte, List.mem_cons, List.not_mem_nil, or_false, true_and, kO_some, u_kVl, Nat.reduceAdd, Nat.reduceLT, eq_self, decide_true, Bool.true_and, look, Option.isNone_none])
set_option hygiene false in
local macro_rules | `(tactic| fail "ma") => `(tactic| first | (rw [at_e ha1]) | (rw [at_e ha2]) | (rw [at_e ha3]) | (rw [at_e ha4]) | (rw [ati_e ha1]) | (rw [ati_e ha2]) | (rw [ati_e ha3]) | (rw [ati_e ha4]) | (rw [at_n (by (first | omega | (rw [List.length_map]; omega)))]; try rw [List.getElem_map]) | (rw [ix_nat (by (first | omega | (simp only [List.length_map]; omega)))]))
local macro_rules | `(tactic| fail "sx") => `(tactic| first | omega | (simp only []; omega))
local macro_rules | `(tactic| fail "rd") => `(tactic| repeat' (first | rw [hp_get] | (rw [hs_ne (by fail "sx")]) | (rw [hn_get2 (by first | rfl | fail "sx")]) | (rw [hn_ne (by fail "sx")]) | rw [hb_c]))
set_option hygiene false in
local macro_rules | `(tactic| fail "oo") => `(tactic| repeat' (first | fail "st" | simp only [hx] | simp only [hy] | simp only [hz] | simp only [hu] | simp only [hv] | simp only [hw] | fail "ob" | (with_reducible refine hw1 _ _ _ ?_) | (with_reducible refine hw2 _ _ _ ?_) | (with_reducible refine hw3 _ _ _ ?_)  | (rw [hs_ne (by omega)]) | (rw [hn_ne (by (first | omega | (simp only []; omega)))]) | fail "ma" | fail "dr" | fail "g1" | fail "none"))
set_option hygiene false in
local macro_rules | `(tactic| fail "on") => `(tactic| repeat' (first | fail "st" | simp only [hx] | simp only [hy] | simp only [hz] | simp only [hu] | simp only [hv] | simp only [hw] | fail "ob" | (with_reducible refine hw1 _ _ _ ?_) | (with_reducible refine hw2 _ _ _ ?_) | (with_reducible refine hw3 _ _ _ ?_)  | (rw [hs_ne (by omega)]) | (rw [hn_ne (by (first | omega | (simp only []; omega)))]) | fail "ma" | fail "dr" | ((with_reducible apply And.intro); (case left => fail "sd")) | fail "none"))

section
variable {P : Prog} {lim k : Nat} {h : AHeap} {q : Nat} {p : PS} {fs : List Val} {fr : Nat} {f : FS} {xs : List Int} {bl : List Nat} {bw : List (List Int)} {Φ : Val → AHeap → Prop} {Ψ : String → Val → AHeap → Prop}
end
end IA

set_option Elab.async false
set_option linter.all false
set_option maxRecDepth 100000
set_option maxHeartbeats 4000000
/-! ## A step in general (own text) -/
namespace IA
set_option hygiene false in
local macro_rules | `(tactic| fail "st") => `(tactic| first | simp only [hp, r_c, r_var, r_op, r_isn, r_isnt, r_ite, r_neg, r_tup, r_ix, r_fld, r_bi, r_call, r_meth, t_op, t_isn, t_isnt, b_nil, b_cons, v_nil, v_cons, g_name, g_tup, g_fld, gs_nil, gs_cons, s_nil, s_cons, x_asg, x_ret, x_ex, x_ifs, x_augF, o_sub, o_neI, o_eqS, if_t, if_f, it_t, it_f, tr_b, in_n, in_t, nn_n, nn_i, va_v, kp_v, li_r, sc_l, bi_lenT, ix_t, ix_r, at_0, at_1, at_2, at_3, st_set, hp_get, fl_n, fl_r, ou_n, ou_r, ca_G, re_t, u_kOp1, u_kOp2, kNeg, u_kTup, u_kIx1, u_kFld, u_kBi, u_kVl, u_kB1, u_kB2, u_kV1, u_kV2, u_kV3, u_kFst1, u_kFst2, u_kGs, u_kNx, u_kAsg, u_kRt, u_kRetS, u_kEx, kMeth1, u_kExc, u_kOutX, kO_some, true_and, and_true, List.length_cons, List.length_nil, List.getElem?_cons_zero, List.getElem?_cons_succ, List.set_cons_zero, List.set_cons_succ, Nat.reduceAdd, szL, Nat.reduceLeDiff, List.nil_append, List.cons_append, decide_true, decide_false, Int.reduceToNat] | simp only [r_c, r_var, r_op, r_isn, r_isnt, r_ite, r_neg, r_tup, r_ix, r_fld, r_bi, r_call, r_meth, t_op, t_isn, t_isnt, b_nil, b_cons, v_nil, v_cons, g_name, g_tup, g_fld, gs_nil, gs_cons, s_nil, s_cons, x_asg, x_ret, x_ex, x_ifs, x_augF, o_sub, o_neI, o_eqS, if_t, if_f, it_t, it_f, tr_b, in_n, in_t, nn_n, nn_i, va_v, kp_v, li_r, sc_l, bi_lenT, ix_t, ix_r, at_0, at_1, at_2, at_3, st_set, hp_get, fl_n, fl_r, ou_n, ou_r, ca_G, re_t, u_kOp1, u_kOp2, kNeg, u_kTup, u_kIx1, u_kFld, u_kBi, u_kVl, u_kB1, u_kB2, u_kV1, u_kV2, u_kV3, u_kFst1, u_kFst2, u_kGs, u_kNx, u_kAsg, u_kRt, u_kRetS, u_kEx, kMeth1, u_kExc, u_kOutX, kO_some, true_and, and_true, List.length_cons, List.length_nil, List.getElem?_cons_zero, List.getElem?_cons_succ, List.set_cons_zero, List.set_cons_succ, Nat.reduceAdd, szL, Nat.reduceLeDiff, List.nil_append, List.cons_append, decide_true, decide_false, Int.reduceToNat])
set_option hygiene false in
local macro_rules | `(tactic| fail "qs") => `(tactic| first
  | with_reducible refine if_s (fun hq => ?_) (fun hq => ?_)
  | with_reducible refine at_s (fun hq => ?_) (fun hq => ?_)
  | with_reducible refine ot_s (fun hq => ?_) (fun hq => ?_)
  | with_reducible refine it_s (fun hq => ?_) (fun hq => ?_)
  | with_reducible refine ad_s (fun hq => ?_) (fun hq => ?_)
  | with_reducible refine or_s (fun hq => ?_) (fun hq => ?_)
  | with_reducible refine ch_s (fun hq => ?_) (fun hq => ?_)
  | with_reducible refine c1_s (fun hq => ?_) (fun hq => ?_))
local macro_rules | `(tactic| fail "sd") => `(tactic| first
  | assumption
  | omega
  | exact smR (by omega) (by omega)
  | exact bdI (by omega) (by omega)
  | exact And.intro (bdI (by omega) (by omega)) (bdI (by omega) (by omega))
  | exact smL (by omega) (by omega)
  | decide)
set_option hygiene false in
local macro_rules | `(tactic| fail "g1") => `(tactic| first
  | fail "st"
  | (fail "qs" <;> (try simp only [decide_eq_true_eq, decide_eq_false_iff_not, Bool.not_eq_true', Bool.not_eq_false', beq_iff_eq, bne_iff_ne, ne_eq, Int.not_le, Int.not_lt] at hq))
  | ((with_reducible apply And.intro); (case left => fail "sd"))
  | fail "none")
set_option hygiene false in
local macro_rules | `(tactic| fail "go") => `(tactic| repeat' fail "g1")
set_option hygiene false in
local macro_rules | `(tactic| fail "ha") => `(tactic| first
  | assumption
  | exact HasA.set (by assumption)
  | fail "none")
set_option hygiene false in
local macro_rules | `(tactic| fail "dr") => `(tactic| first
  | (with_reducible refine draw_A hD (by fail "ha") (by omega) (by omega) ?_; intro v c hc hv0 hv1)
  | (with_reducible refine spend_A hS (by fail "ha") ?_; intro b c hc)
  | (with_reducible refine number_A hD hN (by fail "ha") ?_; intro v c hc hv0 hv1)
  | (with_reducible refine few_A hD hF (by fail "ha") (by omega) (by omega) ?_; intro v c hc hv0 hv1)
  | fail "none")
set_option hygiene false in
local macro_rules | `(tactic| fail "gd") => `(tactic| repeat' (first | fail "g1" | fail "dr" | fail "none"))

set_option hygiene false in
local macro_rules | `(tactic| fail "ob") => `(tactic| simp only [fd_r, cf_i, fs_r, cs_i, pf_n, pf_c, a2_add, af_r, cg_i, u_kAF1, u_kAF2, u_kAF3, u_kAF4, G_call, List.map_cons, List.map_nil, cs3, cs4, Row.v, at_last, ic_c, ic_i, o_memW, u_kMeth, String.reduceEq, reduceIte, List.mem_cons, List.not_mem_nil, or_false, or_true, true_and, and_true, kO_some, u_kVl, List.length_cons, List.length_nil, Nat.reduceAdd, Nat.reduceLT, eq_self, decide_true, Bool.true_and, look, Option.isNone_none])
set_option hygiene false in
local macro_rules | `(tactic| fail "ma") => `(tactic| first | (rw [at_e ha1]) | (rw [at_e ha2]) | (rw [at_e ha3]) | (rw [at_e ha4]) | (rw [ati_e ha1]) | (rw [ati_e ha2]) | (rw [ati_e ha3]) | (rw [ati_e ha4]) | (rw [at_n (by (first | omega | (rw [List.length_map]; omega)))]; try rw [List.getElem_map]) | (rw [ix_nat (by (first | omega | (simp only []; omega)))]))
local macro_rules | `(tactic| fail "sx") => `(tactic| first | omega | (simp only []; omega))
local macro_rules | `(tactic| fail "rd") => `(tactic| repeat' (first | rw [hp_get] | (rw [hs_ne (by fail "sx")]) | (rw [hn_get2 (by first | rfl | fail "sx")]) | (rw [hn_ne (by fail "sx")]) | rw [hb_c]))
set_option hygiene false in
local macro_rules | `(tactic| fail "oo") => `(tactic| repeat' (first | fail "st" | simp only [hx] | simp only [hy] | simp only [hz] | simp only [hu] | simp only [hv] | simp only [hw] | fail "ob" | (with_reducible refine hw1 _ _ _ ?_) | (with_reducible refine hw2 _ _ _ ?_) | (with_reducible refine hw3 _ _ _ ?_)  | (rw [hs_ne (by omega)]) | (rw [hn_ne (by (first | omega | (simp only []; omega)))]) | fail "ma" | fail "dr" | fail "g1" | fail "none"))
set_option hygiene false in
local macro_rules | `(tactic| fail "on") => `(tactic| repeat' (first | fail "st" | simp only [hx] | simp only [hy] | simp only [hz] | simp only [hu] | simp only [hv] | simp only [hw] | fail "ob" | (with_reducible refine hw1 _ _ _ ?_) | (with_reducible refine hw2 _ _ _ ?_) | (with_reducible refine hw3 _ _ _ ?_)  | (rw [hs_ne (by omega)]) | (rw [hn_ne (by (first | omega | (simp only []; omega)))]) | fail "ma" | fail "dr" | ((with_reducible apply And.intro); (case left => fail "sd")) | fail "none"))

/-- the expression that a statement computes first -/
def Sm.main : Sm → Ex
  | .ret e => e
  | .set _ e => e
  | .put _ _ e => e
  | .call _ _ e => e
  | .use _ _ e => e
  | .ifs c _ _ => c
  | .loop c _ => c
section
variable {P : Prog} {lim k : Nat} {h : AHeap} {q : Nat} {p : PS} {fs : List Val} {fr : Nat} {f : FS} {xs : List Int} {bl : List Nat} {bw : List (List Int)} {Φ : Val → AHeap → Prop} {Ψ : String → Val → AHeap → Prop}
end
end IA

set_option Elab.async false
set_option linter.all false
set_option maxRecDepth 100000
set_option maxHeartbeats 4000000
/-! ## Surely defined components (own text) -/
namespace IA
set_option hygiene false in
local macro_rules | `(tactic| fail "st") => `(tactic| first | simp only [hp, r_c, r_var, r_op, r_and, r_neg, r_ix, r_fld, r_bi, r_call, t_var, t_op, t_not, b_nil, b_cons, v_nil, v_cons, i_seq, g_name, s_nil, s_cons, x_asg, x_ret, x_ifs, x_for, o_addT, o_ge, o_eqS, if_t, if_f, nt, tr_b, va_v, kp_v, bi_lenT, ix_t, at_0, at_1, at_2, at_3, st_set, sq_t, fl_n, fl_r, ou_r, ca_G, re_t, fo_x, ki_n, ki_r, u_kOp1, u_kOp2, kNeg, u_kIx1, u_kFld, u_kBi, u_kVl, u_kB1, u_kB2, u_kV1, u_kV2, u_kV3, u_kNx, u_kAsg, u_kRt, u_kRetS, u_kI1, kO_some, true_and, List.length_cons, List.length_nil, List.getElem?_cons_zero, List.getElem?_cons_succ, List.set_cons_zero, List.set_cons_succ, Nat.reduceAdd, szL, Nat.reduceLeDiff, List.nil_append, List.cons_append, decide_true, decide_false, Bool.not_false, Int.reduceToNat, List.length_map] | simp only [r_c, r_var, r_op, r_and, r_neg, r_ix, r_fld, r_bi, r_call, t_var, t_op, t_not, b_nil, b_cons, v_nil, v_cons, i_seq, g_name, s_nil, s_cons, x_asg, x_ret, x_ifs, x_for, o_addT, o_ge, o_eqS, if_t, if_f, nt, tr_b, va_v, kp_v, bi_lenT, ix_t, at_0, at_1, at_2, at_3, st_set, sq_t, fl_n, fl_r, ou_r, ca_G, re_t, fo_x, ki_n, ki_r, u_kOp1, u_kOp2, kNeg, u_kIx1, u_kFld, u_kBi, u_kVl, u_kB1, u_kB2, u_kV1, u_kV2, u_kV3, u_kNx, u_kAsg, u_kRt, u_kRetS, u_kI1, kO_some, true_and, List.length_cons, List.length_nil, List.getElem?_cons_zero, List.getElem?_cons_succ, List.set_cons_zero, List.set_cons_succ, Nat.reduceAdd, szL, Nat.reduceLeDiff, List.nil_append, List.cons_append, decide_true, decide_false, Bool.not_false, Int.reduceToNat, List.length_map])
set_option hygiene false in
local macro_rules | `(tactic| fail "qs") => `(tactic| first
  | with_reducible refine if_s (fun hq => ?_) (fun hq => ?_)
  | with_reducible refine at_s (fun hq => ?_) (fun hq => ?_)
  | with_reducible refine ot_s (fun hq => ?_) (fun hq => ?_)
  | with_reducible refine it_s (fun hq => ?_) (fun hq => ?_)
  | with_reducible refine ad_s (fun hq => ?_) (fun hq => ?_)
  | with_reducible refine or_s (fun hq => ?_) (fun hq => ?_)
  | with_reducible refine ch_s (fun hq => ?_) (fun hq => ?_)
  | with_reducible refine c1_s (fun hq => ?_) (fun hq => ?_))
local macro_rules | `(tactic| fail "sd") => `(tactic| first
  | assumption
  | omega
  | exact smR (by omega) (by omega)
  | exact bdI (by omega) (by omega)
  | exact And.intro (bdI (by omega) (by omega)) (bdI (by omega) (by omega))
  | exact smL (by omega) (by omega)
  | decide)
set_option hygiene false in
local macro_rules | `(tactic| fail "g1") => `(tactic| first
  | fail "st"
  | (fail "qs" <;> (try simp only [decide_eq_true_eq, decide_eq_false_iff_not, Bool.not_eq_true', Bool.not_eq_false', beq_iff_eq, bne_iff_ne, ne_eq, Int.not_le, Int.not_lt] at hq))
  | ((with_reducible apply And.intro); (case left => fail "sd"))
  | fail "none")
set_option hygiene false in
local macro_rules | `(tactic| fail "go") => `(tactic| repeat' fail "g1")
set_option hygiene false in
local macro_rules | `(tactic| fail "ha") => `(tactic| first
  | assumption
  | exact HasA.set (by assumption)
  | fail "none")
set_option hygiene false in
local macro_rules | `(tactic| fail "dr") => `(tactic| first
  | (with_reducible refine draw_A hD (by fail "ha") (by omega) (by omega) ?_; intro v c hc hv0 hv1)
  | (with_reducible refine spend_A hS (by fail "ha") ?_; intro b c hc)
  | (with_reducible refine number_A hD hN (by fail "ha") ?_; intro v c hc hv0 hv1)
  | (with_reducible refine few_A hD hF (by fail "ha") (by omega) (by omega) ?_; intro v c hc hv0 hv1)
  | fail "none")
set_option hygiene false in
local macro_rules | `(tactic| fail "gd") => `(tactic| repeat' (first | fail "g1" | fail "dr" | fail "none"))

set_option hygiene false in
local macro_rules | `(tactic| fail "ob") => `(tactic| simp only [fd_o, Option.map_some, List.map_cons, List.map_nil, Row.v, String.reduceEq, reduceIte, List.mem_cons, List.not_mem_nil, or_false, true_and, kO_some, u_kVl, List.length_cons, List.length_nil, Nat.reduceAdd, Nat.reduceLT, eq_self, decide_true, Bool.true_and, look])
set_option hygiene false in
local macro_rules | `(tactic| fail "ma") => `(tactic| first | (rw [at_e ha1]) | (rw [at_e ha2]) | (rw [at_e ha3]) | (rw [at_e ha4]) | (rw [ati_e ha1]) | (rw [ati_e ha2]) | (rw [ati_e ha3]) | (rw [ati_e ha4]) | (rw [at_n (by (first | omega | (rw [List.length_map]; omega)))]; try rw [List.getElem_map]) | (rw [ix_nat (by (first | omega | (simp only [List.length_map]; omega)))]))
local macro_rules | `(tactic| fail "sx") => `(tactic| first | omega | (simp only []; omega))
local macro_rules | `(tactic| fail "rd") => `(tactic| repeat' (first | rw [hp_get] | (rw [hs_ne (by fail "sx")]) | (rw [hn_get2 (by first | rfl | fail "sx")]) | (rw [hn_ne (by fail "sx")]) | rw [hb_c]))
set_option hygiene false in
local macro_rules | `(tactic| fail "oo") => `(tactic| repeat' (first | fail "st" | simp only [hx] | simp only [hy] | simp only [hz] | simp only [hu] | simp only [hv] | simp only [hw] | fail "ob" | (with_reducible refine hw1 _ _ _ ?_) | (with_reducible refine hw2 _ _ _ ?_) | (with_reducible refine hw3 _ _ _ ?_)  | (rw [hs_ne (by omega)]) | (rw [hn_ne (by (first | omega | (simp only []; omega)))]) | fail "ma" | fail "dr" | fail "g1" | fail "none"))
set_option hygiene false in
local macro_rules | `(tactic| fail "on") => `(tactic| repeat' (first | fail "st" | simp only [hx] | simp only [hy] | simp only [hz] | simp only [hu] | simp only [hv] | simp only [hw] | fail "ob" | (with_reducible refine hw1 _ _ _ ?_) | (with_reducible refine hw2 _ _ _ ?_) | (with_reducible refine hw3 _ _ _ ?_)  | (rw [hs_ne (by omega)]) | (rw [hn_ne (by (first | omega | (simp only []; omega)))]) | fail "ma" | fail "dr" | ((with_reducible apply And.intro); (case left => fail "sd")) | fail "none"))

section
variable {P : Prog} {lim k : Nat} {room : Int} {bw : List (List Int)} {procs : List Val} {s : Shape}
end
end IA

set_option Elab.async false
set_option linter.all false
set_option maxRecDepth 100000
set_option maxHeartbeats 4000000
/-! ## A run without imports, in general (own text) -/
namespace IA
set_option hygiene false in
local macro_rules | `(tactic| fail "st") => `(tactic| first | simp only [hp, List.length_cons, List.length_nil, Nat.reduceAdd, Nat.reduceLeDiff, Int.reduceToNat] | simp only [List.length_cons, List.length_nil, Nat.reduceAdd, Nat.reduceLeDiff, Int.reduceToNat])
set_option hygiene false in
local macro_rules | `(tactic| fail "qs") => `(tactic| first
  | with_reducible refine if_s (fun hq => ?_) (fun hq => ?_)
  | with_reducible refine at_s (fun hq => ?_) (fun hq => ?_)
  | with_reducible refine ot_s (fun hq => ?_) (fun hq => ?_)
  | with_reducible refine it_s (fun hq => ?_) (fun hq => ?_)
  | with_reducible refine ad_s (fun hq => ?_) (fun hq => ?_)
  | with_reducible refine or_s (fun hq => ?_) (fun hq => ?_)
  | with_reducible refine ch_s (fun hq => ?_) (fun hq => ?_)
  | with_reducible refine c1_s (fun hq => ?_) (fun hq => ?_))
local macro_rules | `(tactic| fail "sd") => `(tactic| first
  | assumption
  | omega
  | exact smR (by omega) (by omega)
  | exact bdI (by omega) (by omega)
  | exact And.intro (bdI (by omega) (by omega)) (bdI (by omega) (by omega))
  | exact smL (by omega) (by omega)
  | decide)
set_option hygiene false in
local macro_rules | `(tactic| fail "g1") => `(tactic| first
  | fail "st"
  | (fail "qs" <;> (try simp only [decide_eq_true_eq, decide_eq_false_iff_not, Bool.not_eq_true', Bool.not_eq_false', beq_iff_eq, bne_iff_ne, ne_eq, Int.not_le, Int.not_lt] at hq))
  | ((with_reducible apply And.intro); (case left => fail "sd"))
  | fail "none")
set_option hygiene false in
local macro_rules | `(tactic| fail "go") => `(tactic| repeat' fail "g1")
set_option hygiene false in
local macro_rules | `(tactic| fail "ha") => `(tactic| first
  | assumption
  | exact HasA.set (by assumption)
  | fail "none")
set_option hygiene false in
local macro_rules | `(tactic| fail "dr") => `(tactic| first
  | (with_reducible refine draw_A hD (by fail "ha") (by omega) (by omega) ?_; intro v c hc hv0 hv1)
  | (with_reducible refine spend_A hS (by fail "ha") ?_; intro b c hc)
  | (with_reducible refine number_A hD hN (by fail "ha") ?_; intro v c hc hv0 hv1)
  | (with_reducible refine few_A hD hF (by fail "ha") (by omega) (by omega) ?_; intro v c hc hv0 hv1)
  | fail "none")
set_option hygiene false in
local macro_rules | `(tactic| fail "gd") => `(tactic| repeat' (first | fail "g1" | fail "dr" | fail "none"))

set_option hygiene false in
local macro_rules | `(tactic| fail "ob") => `(tactic| simp only [List.map_append, List.map_cons, List.map_nil, String.reduceEq, reduceIte, List.length_cons, List.length_nil, Nat.reduceAdd, Nat.reduceLT, eq_self])
set_option hygiene false in
local macro_rules | `(tactic| fail "ma") => `(tactic| first | (rw [at_e ha1]) | (rw [at_e ha2]) | (rw [at_e ha3]) | (rw [at_e ha4]) | (rw [ati_e ha1]) | (rw [ati_e ha2]) | (rw [ati_e ha3]) | (rw [ati_e ha4]) | (rw [at_n (by (first | omega | (rw [List.length_map]; omega)))]; try rw [List.getElem_map]) | (rw [ix_nat (by (first | omega | (simp only []; omega)))]))
local macro_rules | `(tactic| fail "sx") => `(tactic| first | omega | (simp only []; omega))
local macro_rules | `(tactic| fail "rd") => `(tactic| repeat' (first | rw [hp_get] | (rw [hs_ne (by fail "sx")]) | (rw [hn_get2 (by first | rfl | fail "sx")]) | (rw [hn_ne (by fail "sx")]) | rw [hb_c]))
set_option hygiene false in
local macro_rules | `(tactic| fail "oo") => `(tactic| repeat' (first | fail "st" | simp only [hx] | simp only [hy] | simp only [hz] | simp only [hu] | simp only [hv] | simp only [hw] | fail "ob" | (with_reducible refine hw1 _ _ _ ?_) | (with_reducible refine hw2 _ _ _ ?_) | (with_reducible refine hw3 _ _ _ ?_)  | (rw [hs_ne (by omega)]) | (rw [hn_ne (by (first | omega | (simp only []; omega)))]) | fail "ma" | fail "dr" | fail "g1" | fail "none"))
set_option hygiene false in
local macro_rules | `(tactic| fail "on") => `(tactic| repeat' (first | fail "st" | simp only [hx] | simp only [hy] | simp only [hz] | simp only [hu] | simp only [hv] | simp only [hw] | fail "ob" | (with_reducible refine hw1 _ _ _ ?_) | (with_reducible refine hw2 _ _ _ ?_) | (with_reducible refine hw3 _ _ _ ?_)  | (rw [hs_ne (by omega)]) | (rw [hn_ne (by (first | omega | (simp only []; omega)))]) | fail "ma" | fail "dr" | ((with_reducible apply And.intro); (case left => fail "sd")) | fail "none"))

structure Fr where
  a : Nat
  f : FS
  xs : List Int
section
variable {P : Prog} {lim k : Nat} {sf : Bool} {cp : Cp} {ps : List (Int × List Sm)} {h0 h : AHeap} {q u f t : Nat} {bl : List Nat} {p : PS} {bw : List (List Int)} {r : Fr} {l : List Fr}
end
end IA

set_option Elab.async false
set_option linter.all false
set_option maxRecDepth 100000
set_option maxHeartbeats 4000000
/-! ## The run of texts as a function: components, frames, steps (own text) -/
namespace IA
/-- a component as data -/
structure Cm where
  room : Int
  bw : List (List Int)
  ps : List Pr
def Cm.cp (c : Cm) : Cp := (c.room, c.bw, c.ps.map Pr.v)
def Cm.v (c : Cm) : Val := c.cp.v
/-- an interface and its components -/
structure Pg where
  rs : List Row
  cs : List Cm
def Pg.imps (g : Pg) (c : Nat) : List (Int × Int) := (g.rs[c]?.map Prod.snd).getD []
structure FM where
  comp : Nat
  xs : List Int
  rest : List Sm
  crossed : Bool
  waits : Int
structure PM where
  bufs : List (List (List Int))
  fs : List FM
  trace : List Ev
  steps : Nat
  state : String
  blamed : Option Nat
def usedOf (c : Nat) : List FM → Int
  | [] => 0
  | f :: l => (if f.comp = c then 2 + (f.xs.length : Int) else 0) + usedOf c l
def PM.enter (g : Pg) (m : PM) (c pi : Nat) (w : Int) (cr : Bool) : PM :=
  match g.cs[c]? with
  | none => m
  | some co =>
    match co.ps[pi]? with
    | none => m
    | some pr => if co.room < usedOf c m.fs + 2 + pr.1 then { m with state := "full" }
      else { m with fs := ⟨c, w :: zeros (pr.1.toNat - 1), pr.2, cr, 0⟩ :: m.fs }
def PM.leave (m : PM) (w : Int) : PM :=
  match m.fs with
  | [] => m
  | [_] => { m with fs := [], trace := m.trace ++ [.fin w], state := "ended" }
  | f :: b :: l => { m with fs := { b with xs := b.xs.set b.waits.toNat w } :: l, trace := if f.crossed then m.trace ++ [.ret f.comp b.comp w] else m.trace }
def PM.blame (m : PM) : PM :=
  match m.fs with
  | [] => m
  | f :: _ => { m with state := "undefined", blamed := some f.comp }
def PM.words (m : PM) (c : Nat) : List (List Int) := m.bufs.getD c []
/-- a statement whose expression has a value; the frame is the topmost one -/
def PM.act (g : Pg) (m : PM) (f : FM) (l : List FM) (x : Sm) (w : Int) : PM :=
  match x with
  | .ret _ => m.leave w
  | .set i _ => { m with fs := { f with xs := f.xs.set i.toNat w } :: l }
  | .put _ _ _ => m
  | .call i t _ => ({ m with fs := { f with waits := i } :: l }).enter g f.comp t.toNat w false
  | .use i t _ =>
    match (g.imps f.comp)[t.toNat]? with
    | none => m
    | some q => ({ m with fs := { f with waits := i } :: l, trace := m.trace ++ [Ev.call f.comp q.1.toNat q.2 w] }).enter g q.1.toNat q.2.toNat w true
  | .ifs _ a b => { m with fs := { f with rest := (if w = 0 then b else a) ++ f.rest } :: l }
  | .loop c a => if w = 0 then m else { m with fs := { f with rest := a ++ (.loop c a :: f.rest) } :: l }
def PM.put (m : PM) (f : FM) (b : Int) (i e : Ex) : PM :=
  match i.val f.xs (m.words f.comp), e.val f.xs (m.words f.comp) with
  | some a, some x =>
    match (m.words f.comp)[b.toNat]? with
    | some w => if a < w.length then { m with bufs := m.bufs.set f.comp ((m.words f.comp).set b.toNat (w.set a.toNat x)) } else m.blame
    | none => m
  | _, _ => m.blame
def PM.stmt (g : Pg) (m : PM) (f : FM) (l : List FM) (x : Sm) : PM :=
  match x with
  | .put b i e => m.put f b i e
  | x =>
    match x.main.val f.xs (m.words f.comp) with
    | none => m.blame
    | some w => m.act g f l x w
def PM.step (g : Pg) (m : PM) : PM :=
  match m.fs with
  | [] => { m with steps := m.steps + 1 }
  | f :: l =>
    match f.rest with
    | [] => ({ m with steps := m.steps + 1 }).leave 0
    | x :: r => ({ m with steps := m.steps + 1, fs := { f with rest := r } :: l }).stmt g { f with rest := r } l x
/-- at most n steps, as long as it runs and the trace has fewer than ev events -/
def PM.go (g : Pg) (ev : Int) : Nat → PM → PM
  | 0, m => m
  | n + 1, m => if m.state = "running" ∧ (m.trace.length : Int) < ev then (m.step g).go g ev n else m
/-! what stays true -/
section
variable {g : Pg} {m : PM} {f : FM} {l : List FM} {x : Sm} {r : List Sm} {w : Int}
end
end IA

set_option Elab.async false
set_option linter.all false
set_option maxRecDepth 100000
set_option maxHeartbeats 4000000
/-! ## A run in the heap: process, frames, buffers, and what changes them (own text) -/
namespace IA
set_option hygiene false in
local macro_rules | `(tactic| fail "st") => `(tactic| first | simp only [hp, List.length_cons, Nat.reduceAdd, Nat.reduceLeDiff, Int.reduceToNat] | simp only [List.length_cons, Nat.reduceAdd, Nat.reduceLeDiff, Int.reduceToNat])
set_option hygiene false in
local macro_rules | `(tactic| fail "qs") => `(tactic| first
  | with_reducible refine if_s (fun hq => ?_) (fun hq => ?_)
  | with_reducible refine at_s (fun hq => ?_) (fun hq => ?_)
  | with_reducible refine ot_s (fun hq => ?_) (fun hq => ?_)
  | with_reducible refine it_s (fun hq => ?_) (fun hq => ?_)
  | with_reducible refine ad_s (fun hq => ?_) (fun hq => ?_)
  | with_reducible refine or_s (fun hq => ?_) (fun hq => ?_)
  | with_reducible refine ch_s (fun hq => ?_) (fun hq => ?_)
  | with_reducible refine c1_s (fun hq => ?_) (fun hq => ?_))
local macro_rules | `(tactic| fail "sd") => `(tactic| first
  | assumption
  | omega
  | exact smR (by omega) (by omega)
  | exact bdI (by omega) (by omega)
  | exact And.intro (bdI (by omega) (by omega)) (bdI (by omega) (by omega))
  | exact smL (by omega) (by omega)
  | decide)
set_option hygiene false in
local macro_rules | `(tactic| fail "g1") => `(tactic| first
  | fail "st"
  | (fail "qs" <;> (try simp only [decide_eq_true_eq, decide_eq_false_iff_not, Bool.not_eq_true', Bool.not_eq_false', beq_iff_eq, bne_iff_ne, ne_eq, Int.not_le, Int.not_lt] at hq))
  | ((with_reducible apply And.intro); (case left => fail "sd"))
  | fail "none")
set_option hygiene false in
local macro_rules | `(tactic| fail "go") => `(tactic| repeat' fail "g1")
set_option hygiene false in
local macro_rules | `(tactic| fail "ha") => `(tactic| first
  | assumption
  | exact HasA.set (by assumption)
  | fail "none")
set_option hygiene false in
local macro_rules | `(tactic| fail "dr") => `(tactic| first
  | (with_reducible refine draw_A hD (by fail "ha") (by omega) (by omega) ?_; intro v c hc hv0 hv1)
  | (with_reducible refine spend_A hS (by fail "ha") ?_; intro b c hc)
  | (with_reducible refine number_A hD hN (by fail "ha") ?_; intro v c hc hv0 hv1)
  | (with_reducible refine few_A hD hF (by fail "ha") (by omega) (by omega) ?_; intro v c hc hv0 hv1)
  | fail "none")
set_option hygiene false in
local macro_rules | `(tactic| fail "gd") => `(tactic| repeat' (first | fail "g1" | fail "dr" | fail "none"))

set_option hygiene false in
local macro_rules | `(tactic| fail "ob") => `(tactic| simp only [hn_next, hs_next, List.map_append, List.map_cons, List.map_nil, String.reduceEq, reduceIte, List.mem_cons, List.not_mem_nil, true_or, or_true, List.length_cons, Nat.reduceAdd, Nat.reduceLT, eq_self])
set_option hygiene false in
local macro_rules | `(tactic| fail "ma") => `(tactic| first | (rw [at_e ha1]) | (rw [at_e ha2]) | (rw [at_e ha3]) | (rw [at_e ha4]) | (rw [ati_e ha1]) | (rw [ati_e ha2]) | (rw [ati_e ha3]) | (rw [ati_e ha4]) | (rw [at_n (by (first | omega | (rw [List.length_map]; omega)))]; try rw [List.getElem_map]) | (rw [ix_nat (by (first | omega | (simp only []; omega)))]))
local macro_rules | `(tactic| fail "sx") => `(tactic| first | omega | (simp only [hs_next, hn_next]; omega))
local macro_rules | `(tactic| fail "rd") => `(tactic| repeat' (first | rw [hp_get] | (rw [hs_ne (by fail "sx")]) | (rw [hn_get2 (by first | rfl | fail "sx")]) | (rw [hn_ne (by fail "sx")]) | rw [hb_c]))
set_option hygiene false in
local macro_rules | `(tactic| fail "oo") => `(tactic| repeat' (first | fail "st" | simp only [hx] | simp only [hy] | simp only [hz] | simp only [hu] | simp only [hv] | simp only [hw] | fail "ob" | (with_reducible refine hw1 _ _ _ ?_) | (with_reducible refine hw2 _ _ _ ?_) | (with_reducible refine hw3 _ _ _ ?_)  | (rw [hs_ne (by omega)]) | (rw [hn_ne (by (first | omega | (simp only [hs_next, hn_next]; omega)))]) | fail "ma" | fail "dr" | fail "g1" | fail "none"))
set_option hygiene false in
local macro_rules | `(tactic| fail "on") => `(tactic| repeat' (first | fail "st" | simp only [hx] | simp only [hy] | simp only [hz] | simp only [hu] | simp only [hv] | simp only [hw] | fail "ob" | (with_reducible refine hw1 _ _ _ ?_) | (with_reducible refine hw2 _ _ _ ?_) | (with_reducible refine hw3 _ _ _ ?_)  | (rw [hs_ne (by omega)]) | (rw [hn_ne (by (first | omega | (simp only [hs_next, hn_next]; omega)))]) | fail "ma" | fail "dr" | ((with_reducible apply And.intro); (case left => fail "sd")) | fail "none"))

/-- a frame's fields, its locals at ce -/
def FM.fs (f : FM) (ce : Nat) : FS := ⟨f.comp, 2 + (f.xs.length : Int), ce, chainV (Sm.vs f.rest) .non, f.crossed, f.waits⟩
section
variable {g : Pg} {h : AHeap} {q : Nat} {p : PS} {al : List (Nat × Nat)} {m : PM} {f : FM} {l : List FM}
end
end IA

set_option Elab.async false
set_option linter.all false
set_option maxRecDepth 100000
set_option maxHeartbeats 4000000
/-! ## Entering, leaving, acting, stepping: the heap does what the function does (own text) -/
namespace IA
set_option hygiene false in
local macro_rules | `(tactic| fail "st") => `(tactic| first | simp only [hp, r_c, r_var, r_op, r_neg, r_tup, r_ix, r_fld, r_bm, r_meth, t_op, t_fld, t_not, b_nil, b_cons, v_nil, v_cons, g_name, g_tup, g_sub, g_fld, gs_nil, gs_cons, s_nil, s_cons, x_asg, x_ex, x_ifs, x_augS, o_eqS, if_t, if_f, nt, tr_b, va_v, kp_v, li_r, sc_l, bi_append, ix_t, ix_r, at_0, at_1, at_2, st_set, su_i, put_r, hp_get, fl_n, ou_n, re_t, u_kOp1, u_kOp2, kNeg, u_kTup, u_kIx1, u_kFld, u_kBm, u_kBm1, u_kVl, u_kB1, u_kB2, u_kV1, u_kV2, u_kV3, u_kSub1, u_kSub2, u_kFst1, u_kFst2, u_kGs, u_kNx, u_kAsg, u_kEx, u_kASa, u_kAS1, u_kAS2, u_kAS3, u_kAS4, u_kAp, kMeth1, u_kExc, u_kOutX, u_kPut, u_kPut1, kO_some, true_and, and_true, List.length_cons, List.length_nil, List.getElem?_cons_zero, List.getElem?_cons_succ, List.set_cons_zero, List.set_cons_succ, Nat.reduceAdd, szL, Nat.reduceLeDiff, List.nil_append, List.cons_append, decide_true, decide_false, Bool.not_true, Bool.not_false, if_pos, recvOk, Option.isSome_some, Int.reduceToNat, List.length_map] | simp only [r_c, r_var, r_op, r_neg, r_tup, r_ix, r_fld, r_bm, r_meth, t_op, t_fld, t_not, b_nil, b_cons, v_nil, v_cons, g_name, g_tup, g_sub, g_fld, gs_nil, gs_cons, s_nil, s_cons, x_asg, x_ex, x_ifs, x_augS, o_eqS, if_t, if_f, nt, tr_b, va_v, kp_v, li_r, sc_l, bi_append, ix_t, ix_r, at_0, at_1, at_2, st_set, su_i, put_r, hp_get, fl_n, ou_n, re_t, u_kOp1, u_kOp2, kNeg, u_kTup, u_kIx1, u_kFld, u_kBm, u_kBm1, u_kVl, u_kB1, u_kB2, u_kV1, u_kV2, u_kV3, u_kSub1, u_kSub2, u_kFst1, u_kFst2, u_kGs, u_kNx, u_kAsg, u_kEx, u_kASa, u_kAS1, u_kAS2, u_kAS3, u_kAS4, u_kAp, kMeth1, u_kExc, u_kOutX, u_kPut, u_kPut1, kO_some, true_and, and_true, List.length_cons, List.length_nil, List.getElem?_cons_zero, List.getElem?_cons_succ, List.set_cons_zero, List.set_cons_succ, Nat.reduceAdd, szL, Nat.reduceLeDiff, List.nil_append, List.cons_append, decide_true, decide_false, Bool.not_true, Bool.not_false, if_pos, recvOk, Option.isSome_some, Int.reduceToNat, List.length_map])
set_option hygiene false in
local macro_rules | `(tactic| fail "qs") => `(tactic| first
  | with_reducible refine if_s (fun hq => ?_) (fun hq => ?_)
  | with_reducible refine at_s (fun hq => ?_) (fun hq => ?_)
  | with_reducible refine ot_s (fun hq => ?_) (fun hq => ?_)
  | with_reducible refine it_s (fun hq => ?_) (fun hq => ?_)
  | with_reducible refine ad_s (fun hq => ?_) (fun hq => ?_)
  | with_reducible refine or_s (fun hq => ?_) (fun hq => ?_)
  | with_reducible refine ch_s (fun hq => ?_) (fun hq => ?_)
  | with_reducible refine c1_s (fun hq => ?_) (fun hq => ?_))
local macro_rules | `(tactic| fail "sd") => `(tactic| first
  | assumption
  | omega
  | exact smR (by omega) (by omega)
  | exact bdI (by omega) (by omega)
  | exact And.intro (bdI (by omega) (by omega)) (bdI (by omega) (by omega))
  | exact smL (by omega) (by omega)
  | decide)
set_option hygiene false in
local macro_rules | `(tactic| fail "g1") => `(tactic| first
  | fail "st"
  | (fail "qs" <;> (try simp only [decide_eq_true_eq, decide_eq_false_iff_not, Bool.not_eq_true', Bool.not_eq_false', beq_iff_eq, bne_iff_ne, ne_eq, Int.not_le, Int.not_lt] at hq))
  | ((with_reducible apply And.intro); (case left => fail "sd"))
  | fail "none")
set_option hygiene false in
local macro_rules | `(tactic| fail "go") => `(tactic| repeat' fail "g1")
set_option hygiene false in
local macro_rules | `(tactic| fail "ha") => `(tactic| first
  | assumption
  | exact HasA.set (by assumption)
  | fail "none")
set_option hygiene false in
local macro_rules | `(tactic| fail "dr") => `(tactic| first
  | (with_reducible refine draw_A hD (by fail "ha") (by omega) (by omega) ?_; intro v c hc hv0 hv1)
  | (with_reducible refine spend_A hS (by fail "ha") ?_; intro b c hc)
  | (with_reducible refine number_A hD hN (by fail "ha") ?_; intro v c hc hv0 hv1)
  | (with_reducible refine few_A hD hF (by fail "ha") (by omega) (by omega) ?_; intro v c hc hv0 hv1)
  | fail "none")
set_option hygiene false in
local macro_rules | `(tactic| fail "gd") => `(tactic| repeat' (first | fail "g1" | fail "dr" | fail "none"))

set_option hygiene false in
local macro_rules | `(tactic| fail "ob") => `(tactic| simp only [fd_o, fd_r, cf_i, fs_r, cs_i, pf_n, pf_c, hn_next, hs_next, as_i, a2_sub, si_i, List.length_replicate, G_call, bi_pop, List.map_append, List.map_cons, List.map_nil, pop_app, Row.v, at_last, tr_r, kTrL, em_app, ic_c, ic_i, u_kMeth, String.reduceEq, reduceIte, List.mem_cons, List.not_mem_nil, or_false, true_or, or_true, true_and, and_true, kO_some, u_kVl, List.length_cons, List.length_nil, Nat.reduceAdd, Nat.reduceLT, eq_self, decide_true, Bool.true_and, look, Option.isNone_none])
set_option hygiene false in
local macro_rules | `(tactic| fail "ma") => `(tactic| first | (rw [at_e ha1]) | (rw [at_e ha2]) | (rw [at_e ha3]) | (rw [at_e ha4]) | (rw [ati_e ha1]) | (rw [ati_e ha2]) | (rw [ati_e ha3]) | (rw [ati_e ha4]) | (rw [at_n (by (first | omega | (rw [List.length_map]; omega)))]; try rw [List.getElem_map]) | (rw [ix_nat (by (first | omega | (simp only [List.length_map, List.length_replicate]; omega)))]))
local macro_rules | `(tactic| fail "sx") => `(tactic| first | omega | (simp only [hs_next, hn_next]; omega))
local macro_rules | `(tactic| fail "rd") => `(tactic| repeat' (first | rw [hp_get] | (rw [hs_ne (by fail "sx")]) | (rw [hn_get2 (by first | rfl | fail "sx")]) | (rw [hn_ne (by fail "sx")]) | rw [hb_c]))
set_option hygiene false in
local macro_rules | `(tactic| fail "oo") => `(tactic| repeat' (first | fail "st" | simp only [hx] | simp only [hy] | simp only [hz] | simp only [hu] | simp only [hv] | simp only [hw] | fail "ob" | (with_reducible refine hw1 _ _ _ ?_) | (with_reducible refine hw2 _ _ _ ?_) | (with_reducible refine hw3 _ _ _ ?_)  | (rw [hs_ne (by omega)]) | (rw [hn_ne (by (first | omega | (simp only [hs_next, hn_next]; omega)))]) | fail "ma" | fail "dr" | fail "g1" | fail "none"))
set_option hygiene false in
local macro_rules | `(tactic| fail "on") => `(tactic| repeat' (first | fail "st" | simp only [hx] | simp only [hy] | simp only [hz] | simp only [hu] | simp only [hv] | simp only [hw] | fail "ob" | (with_reducible refine hw1 _ _ _ ?_) | (with_reducible refine hw2 _ _ _ ?_) | (with_reducible refine hw3 _ _ _ ?_)  | (rw [hs_ne (by omega)]) | (rw [hn_ne (by (first | omega | (simp only [hs_next, hn_next]; omega)))]) | fail "ma" | fail "dr" | ((with_reducible apply And.intro); (case left => fail "sd")) | fail "none"))

section
variable {P : Prog} {lim k : Nat} {g : Pg} {h : AHeap} {q : Nat} {p : PS} {al : List (Nat × Nat)} {m : PM} {f : FM} {l : List FM} {Φ : Val → AHeap → Prop} {Ψ : String → Val → AHeap → Prop}
end
end IA

set_option Elab.async false
set_option linter.all false
set_option maxRecDepth 100000
set_option maxHeartbeats 4000000
/-! ## Process(..) and go (own text) -/
namespace IA
set_option hygiene false in
local macro_rules | `(tactic| fail "st") => `(tactic| first | simp only [hp, r_c, r_var, r_op, r_fld, r_bi, r_meth, t_op, t_or, b_nil, b_cons, v_nil, i_rng, g_name, s_nil, s_cons, x_ret, x_ex, x_ifs, x_brk, x_for, o_ge, o_neS, if_t, tr_b, va_v, kp_n, li_r, sc_l, se_r, bi_lenR, bi_list, st_set, fl_n, fl_b, fl_r, ou_r, re_t, fo_x, ki_n, ki_b, u_kOp1, u_kOp2, u_kFld, u_kBi, u_kVl, u_kB1, u_kB2, kRng, u_kRt, u_kRetS, u_kEx, u_kI1, u_kLen, u_kNw, kMeth1, kO_some, true_and, List.length_nil, List.getElem?_cons_zero, List.getElem?_cons_succ, List.set_cons_zero, List.set_cons_succ, Nat.reduceAdd, Nat.reduceLeDiff, List.nil_append, List.cons_append, decide_true, if_pos, Int.reduceToNat, List.length_map] | simp only [r_c, r_var, r_op, r_fld, r_bi, r_meth, t_op, t_or, b_nil, b_cons, v_nil, i_rng, g_name, s_nil, s_cons, x_ret, x_ex, x_ifs, x_brk, x_for, o_ge, o_neS, if_t, tr_b, va_v, kp_n, li_r, sc_l, se_r, bi_lenR, bi_list, st_set, fl_n, fl_b, fl_r, ou_r, re_t, fo_x, ki_n, ki_b, u_kOp1, u_kOp2, u_kFld, u_kBi, u_kVl, u_kB1, u_kB2, kRng, u_kRt, u_kRetS, u_kEx, u_kI1, u_kLen, u_kNw, kMeth1, kO_some, true_and, List.length_nil, List.getElem?_cons_zero, List.getElem?_cons_succ, List.set_cons_zero, List.set_cons_succ, Nat.reduceAdd, Nat.reduceLeDiff, List.nil_append, List.cons_append, decide_true, if_pos, Int.reduceToNat, List.length_map])
set_option hygiene false in
local macro_rules | `(tactic| fail "qs") => `(tactic| first
  | with_reducible refine if_s (fun hq => ?_) (fun hq => ?_)
  | with_reducible refine at_s (fun hq => ?_) (fun hq => ?_)
  | with_reducible refine ot_s (fun hq => ?_) (fun hq => ?_)
  | with_reducible refine it_s (fun hq => ?_) (fun hq => ?_)
  | with_reducible refine ad_s (fun hq => ?_) (fun hq => ?_)
  | with_reducible refine or_s (fun hq => ?_) (fun hq => ?_)
  | with_reducible refine ch_s (fun hq => ?_) (fun hq => ?_)
  | with_reducible refine c1_s (fun hq => ?_) (fun hq => ?_))
local macro_rules | `(tactic| fail "sd") => `(tactic| first
  | assumption
  | omega
  | exact smR (by omega) (by omega)
  | exact bdI (by omega) (by omega)
  | exact And.intro (bdI (by omega) (by omega)) (bdI (by omega) (by omega))
  | exact smL (by omega) (by omega)
  | decide)
set_option hygiene false in
local macro_rules | `(tactic| fail "g1") => `(tactic| first
  | fail "st"
  | (fail "qs" <;> (try simp only [decide_eq_true_eq, decide_eq_false_iff_not, Bool.not_eq_true', Bool.not_eq_false', beq_iff_eq, bne_iff_ne, ne_eq, Int.not_le, Int.not_lt] at hq))
  | ((with_reducible apply And.intro); (case left => fail "sd"))
  | fail "none")
set_option hygiene false in
local macro_rules | `(tactic| fail "go") => `(tactic| repeat' fail "g1")
set_option hygiene false in
local macro_rules | `(tactic| fail "ha") => `(tactic| first
  | assumption
  | exact HasA.set (by assumption)
  | fail "none")
set_option hygiene false in
local macro_rules | `(tactic| fail "dr") => `(tactic| first
  | (with_reducible refine draw_A hD (by fail "ha") (by omega) (by omega) ?_; intro v c hc hv0 hv1)
  | (with_reducible refine spend_A hS (by fail "ha") ?_; intro b c hc)
  | (with_reducible refine number_A hD hN (by fail "ha") ?_; intro v c hc hv0 hv1)
  | (with_reducible refine few_A hD hF (by fail "ha") (by omega) (by omega) ?_; intro v c hc hv0 hv1)
  | fail "none")
set_option hygiene false in
local macro_rules | `(tactic| fail "gd") => `(tactic| repeat' (first | fail "g1" | fail "dr" | fail "none"))

set_option hygiene false in
local macro_rules | `(tactic| fail "ob") => `(tactic| simp only [fd_r, cf_i, G_call, List.map_cons, List.map_nil, ic_c, ic_i, u_kMeth, String.reduceEq, reduceIte, List.mem_cons, List.not_mem_nil, or_false, true_and, kO_some, u_kVl, List.length_nil, Nat.reduceAdd, Nat.reduceLT, eq_self, decide_true, Bool.true_and, look, Option.isNone_none])
set_option hygiene false in
local macro_rules | `(tactic| fail "ma") => `(tactic| first | (rw [at_e ha1]) | (rw [at_e ha2]) | (rw [at_e ha3]) | (rw [at_e ha4]) | (rw [ati_e ha1]) | (rw [ati_e ha2]) | (rw [ati_e ha3]) | (rw [ati_e ha4]) | (rw [at_n (by (first | omega | (rw [List.length_map]; omega)))]; try rw [List.getElem_map]) | (rw [ix_nat (by (first | omega | (simp only [List.length_map]; omega)))]))
local macro_rules | `(tactic| fail "sx") => `(tactic| first | omega | (simp only []; omega))
local macro_rules | `(tactic| fail "rd") => `(tactic| repeat' (first | rw [hp_get] | (rw [hs_ne (by fail "sx")]) | (rw [hn_get2 (by first | rfl | fail "sx")]) | (rw [hn_ne (by fail "sx")]) | rw [hb_c]))
set_option hygiene false in
local macro_rules | `(tactic| fail "oo") => `(tactic| repeat' (first | fail "st" | simp only [hx] | simp only [hy] | simp only [hz] | simp only [hu] | simp only [hv] | simp only [hw] | fail "ob" | (with_reducible refine hw1 _ _ _ ?_) | (with_reducible refine hw2 _ _ _ ?_) | (with_reducible refine hw3 _ _ _ ?_)  | (rw [hs_ne (by omega)]) | (rw [hn_ne (by (first | omega | (simp only []; omega)))]) | fail "ma" | fail "dr" | fail "g1" | fail "none"))
set_option hygiene false in
local macro_rules | `(tactic| fail "on") => `(tactic| repeat' (first | fail "st" | simp only [hx] | simp only [hy] | simp only [hz] | simp only [hu] | simp only [hv] | simp only [hw] | fail "ob" | (with_reducible refine hw1 _ _ _ ?_) | (with_reducible refine hw2 _ _ _ ?_) | (with_reducible refine hw3 _ _ _ ?_)  | (rw [hs_ne (by omega)]) | (rw [hn_ne (by (first | omega | (simp only []; omega)))]) | fail "ma" | fail "dr" | ((with_reducible apply And.intro); (case left => fail "sd")) | fail "none"))

section
variable {P : Prog} {lim k : Nat} {g : Pg} {h : AHeap} {q : Nat} {p : PS} {al : List (Nat × Nat)} {m : PM} {f : FM} {l : List FM} {Φ : Val → AHeap → Prop} {Ψ : String → Val → AHeap → Prop}
end
end IA

set_option Elab.async false
set_option linter.all false
set_option maxRecDepth 100000
set_option maxHeartbeats 4000000
/-! ## _law_same of things that stand in the heap (own text) -/
namespace IA
set_option hygiene false in
local macro_rules | `(tactic| fail "st") => `(tactic| first | simp only [hp, r_c, r_var, r_op, r_isn, r_and, r_or, r_not, r_ix, r_bi, r_isi, r_call, t_op, t_isn, t_isi, t_call, t_or, t_not, b_nil, b_cons, v_nil, v_cons, i_rng, g_name, s_nil, s_cons, x_ret, x_ifs, x_for, o_eqI, o_neI, o_eqS, o_eqB, o_neB, o_eqNN, if_t, if_f, ot_t, ot_f, nt, tr_b, in_n, in_b, in_i, in_s, in_t, in_l, in_o, in_r, va_v, kp_v, li_r, sc_l, pk_n, pk_b, pk_i, pk_s, pk_t, pk_l, pk_ob, is_1, bi_lenT, bi_lenL, bi_lenR, st_set, fl_n, fl_r, ou_r, ca_G, re_t, fo_x, ki_n, ki_r, u_kOp1, u_kOp2, and_t, and_f, or_t, or_f, Bool.true_beq, Bool.false_beq, beq_self_eq_true, kNot, u_kIx1, u_kBi, u_kBl, u_kB1, u_kB2, u_kV1, u_kV2, u_kV3, kRng, u_kRt, u_kRetS, u_kI1, u_kIs1, u_kLen, kO_some, List.length_cons, List.length_nil, List.getElem?_cons_zero, List.getElem?_cons_succ, List.set_cons_zero, List.set_cons_succ, Nat.reduceAdd, Nat.reduceLeDiff, ofT, List.nil_append, List.cons_append, Bool.not_true, Bool.not_false, Int.reduceToNat] | simp only [r_c, r_var, r_op, r_isn, r_and, r_or, r_not, r_ix, r_bi, r_isi, r_call, t_op, t_isn, t_isi, t_call, t_or, t_not, b_nil, b_cons, v_nil, v_cons, i_rng, g_name, s_nil, s_cons, x_ret, x_ifs, x_for, o_eqI, o_neI, o_eqS, o_eqB, o_neB, o_eqNN, if_t, if_f, ot_t, ot_f, nt, tr_b, in_n, in_b, in_i, in_s, in_t, in_l, in_o, in_r, va_v, kp_v, li_r, sc_l, pk_n, pk_b, pk_i, pk_s, pk_t, pk_l, pk_ob, is_1, bi_lenT, bi_lenL, bi_lenR, st_set, fl_n, fl_r, ou_r, ca_G, re_t, fo_x, ki_n, ki_r, u_kOp1, u_kOp2, and_t, and_f, or_t, or_f, Bool.true_beq, Bool.false_beq, beq_self_eq_true, kNot, u_kIx1, u_kBi, u_kBl, u_kB1, u_kB2, u_kV1, u_kV2, u_kV3, kRng, u_kRt, u_kRetS, u_kI1, u_kIs1, u_kLen, kO_some, List.length_cons, List.length_nil, List.getElem?_cons_zero, List.getElem?_cons_succ, List.set_cons_zero, List.set_cons_succ, Nat.reduceAdd, Nat.reduceLeDiff, ofT, List.nil_append, List.cons_append, Bool.not_true, Bool.not_false, Int.reduceToNat])
set_option hygiene false in
local macro_rules | `(tactic| fail "qs") => `(tactic| first
  | with_reducible refine if_s (fun hq => ?_) (fun hq => ?_)
  | with_reducible refine at_s (fun hq => ?_) (fun hq => ?_)
  | with_reducible refine ot_s (fun hq => ?_) (fun hq => ?_)
  | with_reducible refine it_s (fun hq => ?_) (fun hq => ?_)
  | with_reducible refine ad_s (fun hq => ?_) (fun hq => ?_)
  | with_reducible refine or_s (fun hq => ?_) (fun hq => ?_)
  | with_reducible refine ch_s (fun hq => ?_) (fun hq => ?_)
  | with_reducible refine c1_s (fun hq => ?_) (fun hq => ?_))
local macro_rules | `(tactic| fail "sd") => `(tactic| first
  | assumption
  | omega
  | exact smR (by omega) (by omega)
  | exact bdI (by omega) (by omega)
  | exact And.intro (bdI (by omega) (by omega)) (bdI (by omega) (by omega))
  | exact smL (by omega) (by omega)
  | decide)
set_option hygiene false in
local macro_rules | `(tactic| fail "g1") => `(tactic| first
  | fail "st"
  | (fail "qs" <;> (try simp only [decide_eq_true_eq, decide_eq_false_iff_not, Bool.not_eq_true', Bool.not_eq_false', beq_iff_eq, bne_iff_ne, ne_eq, Int.not_le, Int.not_lt] at hq))
  | ((with_reducible apply And.intro); (case left => fail "sd"))
  | fail "none")
set_option hygiene false in
local macro_rules | `(tactic| fail "go") => `(tactic| repeat' fail "g1")
set_option hygiene false in
local macro_rules | `(tactic| fail "ha") => `(tactic| first
  | assumption
  | exact HasA.set (by assumption)
  | fail "none")
set_option hygiene false in
local macro_rules | `(tactic| fail "dr") => `(tactic| first
  | (with_reducible refine draw_A hD (by fail "ha") (by omega) (by omega) ?_; intro v c hc hv0 hv1)
  | (with_reducible refine spend_A hS (by fail "ha") ?_; intro b c hc)
  | (with_reducible refine number_A hD hN (by fail "ha") ?_; intro v c hc hv0 hv1)
  | (with_reducible refine few_A hD hF (by fail "ha") (by omega) (by omega) ?_; intro v c hc hv0 hv1)
  | fail "none")
set_option hygiene false in
local macro_rules | `(tactic| fail "gd") => `(tactic| repeat' (first | fail "g1" | fail "dr" | fail "none"))

set_option hygiene false in
local macro_rules | `(tactic| fail "ob") => `(tactic| simp only [pk_r, Option.map_some, List.map_cons, List.map_nil, String.reduceEq, reduceIte, kO_some, List.length_cons, List.length_nil, Nat.reduceAdd, Nat.reduceLT, eq_self])
set_option hygiene false in
local macro_rules | `(tactic| fail "ma") => `(tactic| first | (rw [at_e ha1]) | (rw [at_e ha2]) | (rw [at_e ha3]) | (rw [at_e ha4]) | (rw [ati_e ha1]) | (rw [ati_e ha2]) | (rw [ati_e ha3]) | (rw [ati_e ha4]) | (rw [at_n (by (first | omega | (rw [List.length_map]; omega)))]; try rw [List.getElem_map]) | (rw [ix_nat (by (first | omega | (simp only []; omega)))]))
local macro_rules | `(tactic| fail "sx") => `(tactic| first | omega | (simp only []; omega))
local macro_rules | `(tactic| fail "rd") => `(tactic| repeat' (first | rw [hp_get] | (rw [hs_ne (by fail "sx")]) | (rw [hn_get2 (by first | rfl | fail "sx")]) | (rw [hn_ne (by fail "sx")]) | rw [hb_c]))
set_option hygiene false in
local macro_rules | `(tactic| fail "oo") => `(tactic| repeat' (first | fail "st" | simp only [hx] | simp only [hy] | simp only [hz] | simp only [hu] | simp only [hv] | simp only [hw] | fail "ob" | (with_reducible refine hw1 _ _ _ ?_) | (with_reducible refine hw2 _ _ _ ?_) | (with_reducible refine hw3 _ _ _ ?_)  | (rw [hs_ne (by omega)]) | (rw [hn_ne (by (first | omega | (simp only []; omega)))]) | fail "ma" | fail "dr" | fail "g1" | fail "none"))
set_option hygiene false in
local macro_rules | `(tactic| fail "on") => `(tactic| repeat' (first | fail "st" | simp only [hx] | simp only [hy] | simp only [hz] | simp only [hu] | simp only [hv] | simp only [hw] | fail "ob" | (with_reducible refine hw1 _ _ _ ?_) | (with_reducible refine hw2 _ _ _ ?_) | (with_reducible refine hw3 _ _ _ ?_)  | (rw [hs_ne (by omega)]) | (rw [hn_ne (by (first | omega | (simp only []; omega)))]) | fail "ma" | fail "dr" | ((with_reducible apply And.intro); (case left => fail "sd")) | fail "none"))

mutual
/-- a thing with the lists that it refers to -/
def den (h : AHeap) : Val → Val
  | .ref n =>
    match h.c n with
    | some (.lst ws) => .lst ws
    | _ => .ref n
  | .tup xs => .tup (denL h xs)
  | .lst xs => .lst (denL h xs)
  | v => v
def denL (h : AHeap) : List Val → List Val
  | [] => []
  | a :: as => den h a :: denL h as
end
theorem denL_len (h : AHeap) : ∀ xs : List Val, (denL h xs).length = xs.length
  | [] => rfl
  | a :: as => by simp only [denL, List.length_cons, denL_len h as]
theorem denL_get (h : AHeap) : ∀ (xs : List Val) (i : Nat), (denL h xs)[i]? = (xs[i]?).map (den h)
  | [], i => by simp [denL]
  | a :: as, 0 => by simp [denL]
  | a :: as, i + 1 => by simpa [denL] using denL_get h as i
mutual
theorem den_dat (h : AHeap) : ∀ {x : Val}, dat x = true → den h x = x
  | .non, _ => rfl
  | .bl _, _ => rfl
  | .int _, _ => rfl
  | .str _, _ => rfl
  | .tup xs, q => by
    simp only [dat, Bool.and_eq_true] at q
    simp only [den, denL_dat h q.2]
  | .lst xs, q => by
    simp only [dat, Bool.and_eq_true] at q
    simp only [den, denL_dat h q.2]
  | .obj _ _, q => by simp [dat] at q
  | .ref _, q => by simp [dat] at q
  | .scr _, q => by simp [dat] at q
theorem denL_dat (h : AHeap) : ∀ {xs : List Val}, datL xs = true → denL h xs = xs
  | [], _ => rfl
  | a :: as, q => by
    simp only [datL, Bool.and_eq_true] at q
    simp only [denL, den_dat h q.1, denL_dat h q.2]
end
theorem den_ref {h : AHeap} {n : Nat} {ws : List Val} (e : h.c n = some (.lst ws)) : den h (.ref n) = .lst ws := by simp only [den, e]
theorem den_ref_cases {h : AHeap} {n : Nat} (q : dat (den h (.ref n)) = true) : ∃ ws, h.c n = some (.lst ws) ∧ datL ws = true ∧ ws.length < 1152921504606846976 := by
  simp only [den] at q
  split at q
  · rename_i ws e
    simp only [dat, Bool.and_eq_true, decide_eq_true_eq] at q
    exact ⟨ws, e, q.2, q.1⟩
  · simp [dat] at q
section
variable {P : Prog} {lim : Nat}
/-- things that may stand in the heap -/
theorem same_den (hP : P "_law_same" = some IX.b_law_same) : ∀ (k : Nat) (a b : Val) (h : AHeap) (Φ : Val → AHeap → Prop) (Ψ : String → Val → AHeap → Prop), dat (den h a) = true → dat (den h b) = true → dep (den h b) < k → Φ (.bl (veq (den h a) (den h b))) h → WR P lim k "_law_same" [a, b] h Φ Ψ := by
  intro k
  induction k with
  | zero => intro a b h Φ Ψ _ _ hd; omega
  | succ k ih =>
    intro a b h Φ Ψ da db hd hΦ
    have body : ∀ (A B : Val) (xs ys : List Val) (Φ' : Flow → St → Prop), xs.length = ys.length → datL (denL h xs) = true → datL (denL h ys) = true → depL (denL h ys) < k →
        (∀ (i : Nat) (x : Val) (Θ : EV → St → Prop) (z : Option SV), xs[i]? = some x → Θ (.val x) ⟨[some (.v A), some (.v B), z], h⟩ → kIx2 Θ (.val A) (.val (.int (i : Int))) ⟨[some (.v A), some (.v B), z], h⟩) →
        (∀ (i : Nat) (x : Val) (Θ : EV → St → Prop) (z : Option SV), ys[i]? = some x → Θ (.val x) ⟨[some (.v A), some (.v B), z], h⟩ → kIx2 Θ (.val B) (.val (.int (i : Int))) ⟨[some (.v A), some (.v B), z], h⟩) →
        (veqL (denL h xs) (denL h ys) = false → ∀ z, Φ' (.ret (.bl false)) ⟨[some (.v A), some (.v B), z], h⟩) → (veqL (denL h xs) (denL h ys) = true → ∀ z, Φ' .nxt ⟨[some (.v A), some (.v B), z], h⟩) →
        ∀ z, WF (G P lim k) (kOutX Ψ) Φ' (.name 2) (.cons (.ifs (.not (.call "_law_same" (.cons (.ix (.var 0) (.var 2)) (.cons (.ix (.var 1) (.var 2)) .nil)))) (.cons (.ret (.c (.bl false))) .nil) .nil) .nil) (rngL 0 ys.length) ⟨[some (.v A), some (.v B), z], h⟩ := by
      intro A B xs ys Φ' hl dx dy hdep hA hB hF hT z
      refine WF_inv (fun i s => (∃ z, s = ⟨[some (.v A), some (.v B), z], h⟩) ∧ ∀ j, j < i → ∀ x y, (denL h xs)[j]? = some x → (denL h ys)[j]? = some y → veq x y = true) ⟨⟨_, rfl⟩, fun j hj => by omega⟩ ?_ ?_
      · rintro i x s hx ⟨⟨z, rfl⟩, hj⟩
        obtain ⟨hi, rfl⟩ := rngL_some hx
        rw [Int.zero_add]
        fail "go"
        have ex : xs[i]? = some xs[i] := List.getElem?_eq_getElem (by omega)
        have ey : ys[i]? = some ys[i] := List.getElem?_eq_getElem (by omega)
        have ex2 : (denL h xs)[i]? = some (den h xs[i]) := by rw [denL_get, ex]; rfl
        have ey2 : (denL h ys)[i]? = some (den h ys[i]) := by rw [denL_get, ey]; rfl
        refine hA i _ _ _ ex ?_
        fail "go"
        refine hB i _ _ _ ey ?_
        fail "go"
        refine ih _ _ _ _ _ (datL_get dx ex2) (datL_get dy ey2) (by have := depL_get ey2; omega) ?_
        fail "go"
        · have e : veqL (denL h xs) (denL h ys) = false := veqL_ne ex2 ey2 (by simpa using hq)
          exact hF e _
        · refine ⟨⟨_, rfl⟩, fun j hj2 x y h1 h2 => ?_⟩
          by_cases e : j = i
          · subst e
            rw [ex2] at h1
            rw [ey2] at h2
            cases h1
            cases h2
            simpa using hq
          · exact hj j (by omega) x y h1 h2
      · rintro s ⟨⟨z, rfl⟩, hj⟩
        exact hT (veqL_all (by rw [denL_len, denL_len]; exact hl) fun i x y h1 h2 => hj i (by rw [rngL_len]; have := (List.getElem?_eq_some_iff.mp h2).1; rw [denL_len] at this; omega) x y h1 h2) _
    have ixL : ∀ (xs : List Val) (i : Nat) (x : Val) (Θ : EV → St → Prop) (st : St), xs[i]? = some x → Θ (.val x) st → kIx2 Θ (.val (.lst xs)) (.val (.int (i : Int))) st := fun xs i x Θ st e q => by
      rw [ix_l, at_e e]
      exact q
    have ixT : ∀ (xs : List Val) (i : Nat) (x : Val) (Θ : EV → St → Prop) (st : St), xs[i]? = some x → Θ (.val x) st → kIx2 Θ (.val (.tup xs)) (.val (.int (i : Int))) st := fun xs i x Θ st e q => by
      rw [ix_t, at_e e]
      exact q
    have ixR : ∀ (n : Nat) (xs : List Val) (i : Nat) (x : Val) (Θ : EV → St → Prop) (σ : List (Option SV)), h.c n = some (.lst xs) → xs[i]? = some x → Θ (.val x) ⟨σ, h⟩ → kIx2 Θ (.val (.ref n)) (.val (.int (i : Int))) ⟨σ, h⟩ := fun n xs i x Θ σ hc e q => by
      rw [ix_r, li_r]
      simp only [hc, sc_l, kO_some]
      rw [at_e e]
      exact q
    rw [r_enter hP rfl]
    unfold IX.b_law_same start
    simp only [List.map_cons, List.map_nil, List.cons_append, List.nil_append, Nat.reduceSub, List.replicate]
    cases b with
    | non =>
      cases a with
      | ref n =>
        obtain ⟨ws, hp, hw, hwl⟩ := den_ref_cases da
        simp only [den, hp, veq] at hΦ
        fail "oo"
        exact hΦ
      | _ =>
        fail "oo"
        all_goals first
        | exact hΦ
        | (simp [dat, den] at da)
    | bl b =>
      cases a with
      | ref n =>
        obtain ⟨ws, hp, hw, hwl⟩ := den_ref_cases da
        simp only [den, hp, veq] at hΦ
        fail "oo"
        exact hΦ
      | _ =>
        fail "oo"
        all_goals first
        | exact hΦ
        | (simp [dat, den] at da)
    | int b =>
      cases a with
      | ref n =>
        obtain ⟨ws, hp, hw, hwl⟩ := den_ref_cases da
        simp only [den, hp, veq] at hΦ
        fail "oo"
        exact hΦ
      | _ =>
        fail "oo"
        all_goals first
        | exact hΦ
        | (simp [dat, den] at da)
    | str b =>
      cases a with
      | ref n =>
        obtain ⟨ws, hp, hw, hwl⟩ := den_ref_cases da
        simp only [den, hp, veq] at hΦ
        fail "oo"
        exact hΦ
      | _ =>
        fail "oo"
        all_goals first
        | exact hΦ
        | (simp [dat, den] at da)
    | tup ys =>
      simp only [den, dat, Bool.and_eq_true, decide_eq_true_eq, denL_len] at db
      simp only [den, dep] at hd
      cases a with
      | ref n =>
        obtain ⟨ws, hp, hw, hwl⟩ := den_ref_cases da
        simp only [den, hp, veq] at hΦ
        fail "oo"
        exact hΦ
      | tup xs =>
        simp only [den, dat, Bool.and_eq_true, decide_eq_true_eq, denL_len] at da
        simp only [den, veq] at hΦ
        fail "oo"
        · have e : veqL (denL h xs) (denL h ys) = false := veqL_len (by rw [denL_len, denL_len]; omega)
          rw [e] at hΦ
          exact hΦ
        · have hl : xs.length = ys.length := by omega
          rw [Int.toNat_natCast]
          refine body (.tup xs) (.tup ys) xs ys _ hl da.2 db.2 (by omega) (fun i x Θ z e q => ixT xs i x Θ _ e q) (fun i x Θ z e q => ixT ys i x Θ _ e q) (fun e z => ?_) (fun e z => ?_) _
          · rw [e] at hΦ
            exact hΦ
          · rw [e] at hΦ
            fail "oo"
            exact hΦ
      | _ =>
        fail "oo"
        all_goals first
        | exact hΦ
        | (simp [dat, den] at da)
    | lst ys =>
      simp only [den, dat, Bool.and_eq_true, decide_eq_true_eq, denL_len] at db
      simp only [den, dep] at hd
      cases a with
      | lst xs =>
        simp only [den, dat, Bool.and_eq_true, decide_eq_true_eq, denL_len] at da
        simp only [den,  veq] at hΦ
        fail "oo"
        · have e : veqL (denL h xs) (denL h ys) = false := veqL_len (by rw [denL_len, denL_len]; omega)
          rw [e] at hΦ
          exact hΦ
        · have hl : xs.length = ys.length := by omega
          rw [Int.toNat_natCast]
          refine body (.lst xs) (.lst ys) xs ys _ hl da.2 db.2 (by omega) (fun i x Θ z e q => ixL xs i x Θ _ e q) (fun i x Θ z e q => ixL ys i x Θ _ e q) (fun e z => ?_) (fun e z => ?_) _
          · rw [e] at hΦ
            exact hΦ
          · rw [e] at hΦ
            fail "oo"
            exact hΦ
      | ref n =>
        obtain ⟨xs, hx, hw, hwl⟩ := den_ref_cases da
        have da2 : datL (denL h xs) = true := by rw [denL_dat h hw]; exact hw
        simp only [den, hx,  veq] at hΦ
        rw [← denL_dat h hw] at hΦ
        have hp := hx
        fail "oo"
        · have e : veqL (denL h xs) (denL h ys) = false := veqL_len (by rw [denL_len, denL_len]; omega)
          rw [e] at hΦ
          exact hΦ
        · have hl : xs.length = ys.length := by omega
          rw [Int.toNat_natCast]
          refine body (.ref n) (.lst ys) xs ys _ hl da2 db.2 (by omega) (fun i x Θ z e q => ixR n xs i x Θ _ hx e q) (fun i x Θ z e q => ixL ys i x Θ _ e q) (fun e z => ?_) (fun e z => ?_) _
          · rw [e] at hΦ
            exact hΦ
          · rw [e] at hΦ
            fail "oo"
            exact hΦ
      | _ =>
        fail "oo"
        all_goals first
        | exact hΦ
        | (simp [dat, den] at da)
    | ref n2 =>
      obtain ⟨ys, hy, hv, hvl⟩ := den_ref_cases db
      have db2 : datL (denL h ys) = true := by rw [denL_dat h hv]; exact hv
      rw [den_ref hy] at hd
      simp only [dep] at hd
      rw [← denL_dat h hv] at hd
      cases a with
      | lst xs =>
        simp only [den, dat, Bool.and_eq_true, decide_eq_true_eq, denL_len] at da
        simp only [den, hy,  veq] at hΦ
        have hp := hy
        rw [← denL_dat h hv] at hΦ
        fail "oo"
        · have e : veqL (denL h xs) (denL h ys) = false := veqL_len (by rw [denL_len, denL_len]; omega)
          rw [e] at hΦ
          exact hΦ
        · have hl : xs.length = ys.length := by omega
          rw [Int.toNat_natCast]
          refine body (.lst xs) (.ref n2) xs ys _ hl da.2 db2 (by omega) (fun i x Θ z e q => ixL xs i x Θ _ e q) (fun i x Θ z e q => ixR n2 ys i x Θ _ hy e q) (fun e z => ?_) (fun e z => ?_) _
          · rw [e] at hΦ
            exact hΦ
          · rw [e] at hΦ
            fail "oo"
            exact hΦ
      | ref n =>
        obtain ⟨xs, hx, hw, hwl⟩ := den_ref_cases da
        have da2 : datL (denL h xs) = true := by rw [denL_dat h hw]; exact hw
        simp only [den, hx, hy,  veq] at hΦ
        rw [← denL_dat h hw] at hΦ
        have hp := hy
        rw [← denL_dat h hv] at hΦ
        fail "oo"
        · have e : veqL (denL h xs) (denL h ys) = false := veqL_len (by rw [denL_len, denL_len]; omega)
          rw [e] at hΦ
          exact hΦ
        · have hl : xs.length = ys.length := by omega
          rw [Int.toNat_natCast]
          refine body (.ref n) (.ref n2) xs ys _ hl da2 db2 (by omega) (fun i x Θ z e q => ixR n xs i x Θ _ hx e q) (fun i x Θ z e q => ixR n2 ys i x Θ _ hy e q) (fun e z => ?_) (fun e z => ?_) _
          · rw [e] at hΦ
            exact hΦ
          · rw [e] at hΦ
            fail "oo"
            exact hΦ
      | _ =>
        simp only [den, hy, veq] at hΦ
        have hp := hy
        fail "oo"
        all_goals first
        | exact hΦ
        | (simp [dat, den] at da)
    | obj C fs => simp [dat, den] at db
    | scr xs => simp [dat, den] at db
end
end IA

set_option Elab.async false
set_option linter.all false
set_option maxRecDepth 100000
set_option maxHeartbeats 4000000
/-! ## Events, what is made by whom (own text) -/
namespace IA
set_option hygiene false in
local macro_rules | `(tactic| fail "st") => `(tactic| first | simp only [hp, r_c, r_var, r_op, r_lst, r_ix, r_bm, r_heap, t_op, b_nil, b_cons, v_nil, i_seq, g_name, s_nil, s_cons, x_asg, x_ret, x_ex, x_ifs, x_for, o_eqI, o_eqS, if_t, if_f, tr_b, va_v, kp_v, li_r, sc_l, bi_append, ix_t, at_0, at_1, st_set, put_r, sq_l, fl_n, fl_r, ou_r, fo_x, ki_n, u_kOp1, u_kOp2, u_kLst, u_kIx1, u_kBm, u_kBm1, u_kB1, u_kB2, u_kNx, u_kAsg, u_kRt, u_kRetS, u_kEx, u_kI1, u_kAp, kHeap, kO_some, true_and, List.length_nil, List.getElem?_cons_zero, List.getElem?_cons_succ, List.set_cons_zero, List.set_cons_succ, Nat.reduceAdd, szL, Nat.reduceLeDiff, List.nil_append, List.cons_append, decide_true, decide_false, recvOk, Option.isSome_some, Int.reduceToNat, List.length_map] | simp only [r_c, r_var, r_op, r_lst, r_ix, r_bm, r_heap, t_op, b_nil, b_cons, v_nil, i_seq, g_name, s_nil, s_cons, x_asg, x_ret, x_ex, x_ifs, x_for, o_eqI, o_eqS, if_t, if_f, tr_b, va_v, kp_v, li_r, sc_l, bi_append, ix_t, at_0, at_1, st_set, put_r, sq_l, fl_n, fl_r, ou_r, fo_x, ki_n, u_kOp1, u_kOp2, u_kLst, u_kIx1, u_kBm, u_kBm1, u_kB1, u_kB2, u_kNx, u_kAsg, u_kRt, u_kRetS, u_kEx, u_kI1, u_kAp, kHeap, kO_some, true_and, List.length_nil, List.getElem?_cons_zero, List.getElem?_cons_succ, List.set_cons_zero, List.set_cons_succ, Nat.reduceAdd, szL, Nat.reduceLeDiff, List.nil_append, List.cons_append, decide_true, decide_false, recvOk, Option.isSome_some, Int.reduceToNat, List.length_map])
set_option hygiene false in
local macro_rules | `(tactic| fail "qs") => `(tactic| first
  | with_reducible refine if_s (fun hq => ?_) (fun hq => ?_)
  | with_reducible refine at_s (fun hq => ?_) (fun hq => ?_)
  | with_reducible refine ot_s (fun hq => ?_) (fun hq => ?_)
  | with_reducible refine it_s (fun hq => ?_) (fun hq => ?_)
  | with_reducible refine ad_s (fun hq => ?_) (fun hq => ?_)
  | with_reducible refine or_s (fun hq => ?_) (fun hq => ?_)
  | with_reducible refine ch_s (fun hq => ?_) (fun hq => ?_)
  | with_reducible refine c1_s (fun hq => ?_) (fun hq => ?_))
local macro_rules | `(tactic| fail "sd") => `(tactic| first
  | assumption
  | omega
  | exact smR (by omega) (by omega)
  | exact bdI (by omega) (by omega)
  | exact And.intro (bdI (by omega) (by omega)) (bdI (by omega) (by omega))
  | exact smL (by omega) (by omega)
  | decide)
set_option hygiene false in
local macro_rules | `(tactic| fail "g1") => `(tactic| first
  | fail "st"
  | (fail "qs" <;> (try simp only [decide_eq_true_eq, decide_eq_false_iff_not, Bool.not_eq_true', Bool.not_eq_false', beq_iff_eq, bne_iff_ne, ne_eq, Int.not_le, Int.not_lt] at hq))
  | ((with_reducible apply And.intro); (case left => fail "sd"))
  | fail "none")
set_option hygiene false in
local macro_rules | `(tactic| fail "go") => `(tactic| repeat' fail "g1")
set_option hygiene false in
local macro_rules | `(tactic| fail "ha") => `(tactic| first
  | assumption
  | exact HasA.set (by assumption)
  | fail "none")
set_option hygiene false in
local macro_rules | `(tactic| fail "dr") => `(tactic| first
  | (with_reducible refine draw_A hD (by fail "ha") (by omega) (by omega) ?_; intro v c hc hv0 hv1)
  | (with_reducible refine spend_A hS (by fail "ha") ?_; intro b c hc)
  | (with_reducible refine number_A hD hN (by fail "ha") ?_; intro v c hc hv0 hv1)
  | (with_reducible refine few_A hD hF (by fail "ha") (by omega) (by omega) ?_; intro v c hc hv0 hv1)
  | fail "none")
set_option hygiene false in
local macro_rules | `(tactic| fail "gd") => `(tactic| repeat' (first | fail "g1" | fail "dr" | fail "none"))

set_option hygiene false in
local macro_rules | `(tactic| fail "ob") => `(tactic| simp only [hn_get, hn_set, Option.map_some, List.map_append, List.map_cons, List.map_nil, Row.v, String.reduceEq, reduceIte, true_and, kO_some, List.length_nil, Nat.reduceAdd, Nat.reduceLT, eq_self, decide_true, Bool.true_and])
set_option hygiene false in
local macro_rules | `(tactic| fail "ma") => `(tactic| first | (rw [at_e ha1]) | (rw [at_e ha2]) | (rw [at_e ha3]) | (rw [at_e ha4]) | (rw [ati_e ha1]) | (rw [ati_e ha2]) | (rw [ati_e ha3]) | (rw [ati_e ha4]) | (rw [at_n (by (first | omega | (rw [List.length_map]; omega)))]; try rw [List.getElem_map]) | (rw [ix_nat (by (first | omega | (simp only [List.length_map]; omega)))]))
local macro_rules | `(tactic| fail "sx") => `(tactic| first | omega | (simp only []; omega))
local macro_rules | `(tactic| fail "rd") => `(tactic| repeat' (first | rw [hp_get] | (rw [hs_ne (by fail "sx")]) | (rw [hn_get2 (by first | rfl | fail "sx")]) | (rw [hn_ne (by fail "sx")]) | rw [hb_c]))
set_option hygiene false in
local macro_rules | `(tactic| fail "oo") => `(tactic| repeat' (first | fail "st" | simp only [hx] | simp only [hy] | simp only [hz] | simp only [hu] | simp only [hv] | simp only [hw] | fail "ob" | (with_reducible refine hw1 _ _ _ ?_) | (with_reducible refine hw2 _ _ _ ?_) | (with_reducible refine hw3 _ _ _ ?_)  | (rw [hs_ne (by omega)]) | (rw [hn_ne (by (first | omega | (simp only []; omega)))]) | fail "ma" | fail "dr" | fail "g1" | fail "none"))
set_option hygiene false in
local macro_rules | `(tactic| fail "on") => `(tactic| repeat' (first | fail "st" | simp only [hx] | simp only [hy] | simp only [hz] | simp only [hu] | simp only [hv] | simp only [hw] | fail "ob" | (with_reducible refine hw1 _ _ _ ?_) | (with_reducible refine hw2 _ _ _ ?_) | (with_reducible refine hw3 _ _ _ ?_)  | (rw [hs_ne (by omega)]) | (rw [hn_ne (by (first | omega | (simp only []; omega)))]) | fail "ma" | fail "dr" | ((with_reducible apply And.intro); (case left => fail "sd")) | fail "none"))

section
variable {P : Prog} {lim k : Nat} {h : AHeap} {p : Nat} {ns : List Int} {n : Int} {Φ : Val → AHeap → Prop} {Ψ : String → Val → AHeap → Prop}
end
end IA

set_option Elab.async false
set_option linter.all false
set_option maxRecDepth 100000
set_option maxHeartbeats 4000000
/-! ## Two runs beside each other; what a run shows (own text) -/
namespace IA
set_option hygiene false in
local macro_rules | `(tactic| fail "st") => `(tactic| first | simp only [hp, and_true, List.length_cons, List.length_nil, Nat.reduceAdd, Nat.reduceLeDiff, Int.reduceToNat, List.length_map] | simp only [and_true, List.length_cons, List.length_nil, Nat.reduceAdd, Nat.reduceLeDiff, Int.reduceToNat, List.length_map])
set_option hygiene false in
local macro_rules | `(tactic| fail "qs") => `(tactic| first
  | with_reducible refine if_s (fun hq => ?_) (fun hq => ?_)
  | with_reducible refine at_s (fun hq => ?_) (fun hq => ?_)
  | with_reducible refine ot_s (fun hq => ?_) (fun hq => ?_)
  | with_reducible refine it_s (fun hq => ?_) (fun hq => ?_)
  | with_reducible refine ad_s (fun hq => ?_) (fun hq => ?_)
  | with_reducible refine or_s (fun hq => ?_) (fun hq => ?_)
  | with_reducible refine ch_s (fun hq => ?_) (fun hq => ?_)
  | with_reducible refine c1_s (fun hq => ?_) (fun hq => ?_))
local macro_rules | `(tactic| fail "sd") => `(tactic| first
  | assumption
  | omega
  | exact smR (by omega) (by omega)
  | exact bdI (by omega) (by omega)
  | exact And.intro (bdI (by omega) (by omega)) (bdI (by omega) (by omega))
  | exact smL (by omega) (by omega)
  | decide)
set_option hygiene false in
local macro_rules | `(tactic| fail "g1") => `(tactic| first
  | fail "st"
  | (fail "qs" <;> (try simp only [decide_eq_true_eq, decide_eq_false_iff_not, Bool.not_eq_true', Bool.not_eq_false', beq_iff_eq, bne_iff_ne, ne_eq, Int.not_le, Int.not_lt] at hq))
  | ((with_reducible apply And.intro); (case left => fail "sd"))
  | fail "none")
set_option hygiene false in
local macro_rules | `(tactic| fail "go") => `(tactic| repeat' fail "g1")
set_option hygiene false in
local macro_rules | `(tactic| fail "ha") => `(tactic| first
  | assumption
  | exact HasA.set (by assumption)
  | fail "none")
set_option hygiene false in
local macro_rules | `(tactic| fail "dr") => `(tactic| first
  | (with_reducible refine draw_A hD (by fail "ha") (by omega) (by omega) ?_; intro v c hc hv0 hv1)
  | (with_reducible refine spend_A hS (by fail "ha") ?_; intro b c hc)
  | (with_reducible refine number_A hD hN (by fail "ha") ?_; intro v c hc hv0 hv1)
  | (with_reducible refine few_A hD hF (by fail "ha") (by omega) (by omega) ?_; intro v c hc hv0 hv1)
  | fail "none")
set_option hygiene false in
local macro_rules | `(tactic| fail "gd") => `(tactic| repeat' (first | fail "g1" | fail "dr" | fail "none"))

set_option hygiene false in
local macro_rules | `(tactic| fail "ob") => `(tactic| simp only [String.reduceEq, reduceIte, and_true, List.length_cons, List.length_nil, Nat.reduceAdd, Nat.reduceLT])
set_option hygiene false in
local macro_rules | `(tactic| fail "ma") => `(tactic| first | (rw [at_e ha1]) | (rw [at_e ha2]) | (rw [at_e ha3]) | (rw [at_e ha4]) | (rw [ati_e ha1]) | (rw [ati_e ha2]) | (rw [ati_e ha3]) | (rw [ati_e ha4]) | (rw [at_n (by (first | omega | (rw [List.length_map]; omega)))]; try rw [List.getElem_map]) | (rw [ix_nat (by (first | omega | (simp only [List.length_map]; omega)))]))
local macro_rules | `(tactic| fail "sx") => `(tactic| first | omega | (simp only []; omega))
local macro_rules | `(tactic| fail "rd") => `(tactic| repeat' (first | rw [hp_get] | (rw [hs_ne (by fail "sx")]) | (rw [hn_get2 (by first | rfl | fail "sx")]) | (rw [hn_ne (by fail "sx")]) | rw [hb_c]))
set_option hygiene false in
local macro_rules | `(tactic| fail "oo") => `(tactic| repeat' (first | fail "st" | simp only [hx] | simp only [hy] | simp only [hz] | simp only [hu] | simp only [hv] | simp only [hw] | fail "ob" | (with_reducible refine hw1 _ _ _ ?_) | (with_reducible refine hw2 _ _ _ ?_) | (with_reducible refine hw3 _ _ _ ?_)  | (rw [hs_ne (by omega)]) | (rw [hn_ne (by (first | omega | (simp only []; omega)))]) | fail "ma" | fail "dr" | fail "g1" | fail "none"))
set_option hygiene false in
local macro_rules | `(tactic| fail "on") => `(tactic| repeat' (first | fail "st" | simp only [hx] | simp only [hy] | simp only [hz] | simp only [hu] | simp only [hv] | simp only [hw] | fail "ob" | (with_reducible refine hw1 _ _ _ ?_) | (with_reducible refine hw2 _ _ _ ?_) | (with_reducible refine hw3 _ _ _ ?_)  | (rw [hs_ne (by omega)]) | (rw [hn_ne (by (first | omega | (simp only []; omega)))]) | fail "ma" | fail "dr" | ((with_reducible apply And.intro); (case left => fail "sd")) | fail "none"))

section
variable {g : Pg} {h h' : AHeap} {q : Nat} {p : PS} {al al' : List (Nat × Nat)} {m : PM}
end
section
variable {P : Prog} {lim k : Nat} {h : AHeap} {Φ : Val → AHeap → Prop} {Ψ : String → Val → AHeap → Prop}
theorem same_refl (hP : P "_law_same" = some IX.b_law_same) {a b : Val} (h1 : den h a = den h b) (h2 : dat (den h b) = true) (h3 : dep (den h b) < k) (hΦ : Φ (.bl true) h) : WR P lim k "_law_same" [a, b] h Φ Ψ := by
  refine same_den hP k a b h Φ Ψ (by rw [h1]; exact h2) h2 h3 ?_
  rw [h1, veq_refl h2]
  exact hΦ
end
end IA

set_option Elab.async false
set_option linter.all false
set_option maxRecDepth 100000
set_option maxHeartbeats 4000000
/-! ## The law k02 (own text) -/
namespace IA
set_option hygiene false in
local macro_rules | `(tactic| fail "st") => `(tactic| first | simp only [hp, r_c, r_var, r_op, r_isnt, r_and, r_tup, r_lst, r_ix, r_fld, r_xat, r_xisi, r_bi, r_eqo, r_call, r_mk, r_meth, t_op, t_isnt, t_call, t_xisi, t_or, t_not, b_nil, b_cons, v_nil, v_cons, i_seq, g_name, g_nameN, s_nil, s_cons, x_asg, x_ret, x_ifs, r_comp, if_t, if_f, ot_f, nt, tr_b, nn_n, nn_i, va_v, va_o, kp_v, kp_n, kp_o, ko_o, li_r, sc_l, se_l, se_n, se_r, bi_lenT, bi_lenR, bi_list, bi_tuple, ix_t, at_0, at_1, st_set, fl_n, fl_r, ou_r, ca_G, re_t, u_kOp1, u_kOp2, and_t, u_kTup, u_kLst, u_kIx1, u_kFld, kXat, kXisi, u_kBi, u_kVl, u_kB1, u_kB2, u_kV1, u_kV2, u_kV3, u_kNx, u_kAsg, u_kRt, u_kRetS, u_kLen, u_kNw, u_kTp, kMeth1, wipe, kO_some, true_and, and_true, List.length_cons, List.length_nil, List.getElem?_cons_zero, List.getElem?_cons_succ, List.set_cons_zero, List.set_cons_succ, Nat.reduceAdd, szL, Nat.reduceLeDiff, List.nil_append, List.cons_append, decide_true, Bool.not_true, Int.reduceToNat, List.length_map] | simp only [r_c, r_var, r_op, r_isnt, r_and, r_tup, r_lst, r_ix, r_fld, r_xat, r_xisi, r_bi, r_eqo, r_call, r_mk, r_meth, t_op, t_isnt, t_call, t_xisi, t_or, t_not, b_nil, b_cons, v_nil, v_cons, i_seq, g_name, g_nameN, s_nil, s_cons, x_asg, x_ret, x_ifs, r_comp, if_t, if_f, ot_f, nt, tr_b, nn_n, nn_i, va_v, va_o, kp_v, kp_n, kp_o, ko_o, li_r, sc_l, se_l, se_n, se_r, bi_lenT, bi_lenR, bi_list, bi_tuple, ix_t, at_0, at_1, st_set, fl_n, fl_r, ou_r, ca_G, re_t, u_kOp1, u_kOp2, and_t, u_kTup, u_kLst, u_kIx1, u_kFld, kXat, kXisi, u_kBi, u_kVl, u_kB1, u_kB2, u_kV1, u_kV2, u_kV3, u_kNx, u_kAsg, u_kRt, u_kRetS, u_kLen, u_kNw, u_kTp, kMeth1, wipe, kO_some, true_and, and_true, List.length_cons, List.length_nil, List.getElem?_cons_zero, List.getElem?_cons_succ, List.set_cons_zero, List.set_cons_succ, Nat.reduceAdd, szL, Nat.reduceLeDiff, List.nil_append, List.cons_append, decide_true, Bool.not_true, Int.reduceToNat, List.length_map])
set_option hygiene false in
local macro_rules | `(tactic| fail "qs") => `(tactic| first
  | with_reducible refine if_s (fun hq => ?_) (fun hq => ?_)
  | with_reducible refine at_s (fun hq => ?_) (fun hq => ?_)
  | with_reducible refine ot_s (fun hq => ?_) (fun hq => ?_)
  | with_reducible refine it_s (fun hq => ?_) (fun hq => ?_)
  | with_reducible refine ad_s (fun hq => ?_) (fun hq => ?_)
  | with_reducible refine or_s (fun hq => ?_) (fun hq => ?_)
  | with_reducible refine ch_s (fun hq => ?_) (fun hq => ?_)
  | with_reducible refine c1_s (fun hq => ?_) (fun hq => ?_))
local macro_rules | `(tactic| fail "sd") => `(tactic| first
  | assumption
  | omega
  | exact smR (by omega) (by omega)
  | exact bdI (by omega) (by omega)
  | exact And.intro (bdI (by omega) (by omega)) (bdI (by omega) (by omega))
  | exact smL (by omega) (by omega)
  | decide)
set_option hygiene false in
local macro_rules | `(tactic| fail "g1") => `(tactic| first
  | fail "st"
  | (fail "qs" <;> (try simp only [decide_eq_true_eq, decide_eq_false_iff_not, Bool.not_eq_true', Bool.not_eq_false', beq_iff_eq, bne_iff_ne, ne_eq, Int.not_le, Int.not_lt] at hq))
  | ((with_reducible apply And.intro); (case left => fail "sd"))
  | fail "none")
set_option hygiene false in
local macro_rules | `(tactic| fail "go") => `(tactic| repeat' fail "g1")
set_option hygiene false in
local macro_rules | `(tactic| fail "ha") => `(tactic| first
  | assumption
  | exact HasA.set (by assumption)
  | fail "none")
set_option hygiene false in
local macro_rules | `(tactic| fail "dr") => `(tactic| first
  | (with_reducible refine draw_A hD (by fail "ha") (by omega) (by omega) ?_; intro v c hc hv0 hv1)
  | (with_reducible refine spend_A hS (by fail "ha") ?_; intro b c hc)
  | (with_reducible refine number_A hD hN (by fail "ha") ?_; intro v c hc hv0 hv1)
  | (with_reducible refine few_A hD hF (by fail "ha") (by omega) (by omega) ?_; intro v c hc hv0 hv1)
  | fail "none")
set_option hygiene false in
local macro_rules | `(tactic| fail "gd") => `(tactic| repeat' (first | fail "g1" | fail "dr" | fail "none"))

set_option hygiene false in
local macro_rules | `(tactic| fail "ob") => `(tactic| simp only [fd_o, mk_G, G_call, Option.map_some, List.map_cons, List.map_nil, ic_o, u_kMeth, String.reduceEq, reduceIte, List.mem_cons, List.not_mem_nil, or_false, true_or, or_true, true_and, and_true, kO_some, u_kVl, List.length_cons, List.length_nil, Nat.reduceAdd, Nat.reduceLT, eq_self, decide_true, Bool.true_and, look, Option.isNone_none])
set_option hygiene false in
local macro_rules | `(tactic| fail "ma") => `(tactic| first | (rw [at_e ha1]) | (rw [at_e ha2]) | (rw [at_e ha3]) | (rw [at_e ha4]) | (rw [ati_e ha1]) | (rw [ati_e ha2]) | (rw [ati_e ha3]) | (rw [ati_e ha4]) | (rw [at_n (by (first | omega | (rw [List.length_map]; omega)))]; try rw [List.getElem_map]) | (rw [ix_nat (by (first | omega | (simp only [List.length_map]; omega)))]))
local macro_rules | `(tactic| fail "sx") => `(tactic| first | omega | (simp only []; omega))
local macro_rules | `(tactic| fail "rd") => `(tactic| repeat' (first | rw [hp_get] | (rw [hs_ne (by fail "sx")]) | (rw [hn_get2 (by first | rfl | fail "sx")]) | (rw [hn_ne (by fail "sx")]) | rw [hb_c]))
set_option hygiene false in
local macro_rules | `(tactic| fail "oo") => `(tactic| repeat' (first | fail "st" | simp only [hx] | simp only [hy] | simp only [hz] | simp only [hu] | simp only [hv] | simp only [hw] | fail "ob" | (with_reducible refine hw1 _ _ _ ?_) | (with_reducible refine hw2 _ _ _ ?_) | (with_reducible refine hw3 _ _ _ ?_)  | (rw [hs_ne (by omega)]) | (rw [hn_ne (by (first | omega | (simp only []; omega)))]) | fail "ma" | fail "dr" | fail "g1" | fail "none"))
set_option hygiene false in
local macro_rules | `(tactic| fail "on") => `(tactic| repeat' (first | fail "st" | simp only [hx] | simp only [hy] | simp only [hz] | simp only [hu] | simp only [hv] | simp only [hw] | fail "ob" | (with_reducible refine hw1 _ _ _ ?_) | (with_reducible refine hw2 _ _ _ ?_) | (with_reducible refine hw3 _ _ _ ?_)  | (rw [hs_ne (by omega)]) | (rw [hn_ne (by (first | omega | (simp only []; omega)))]) | fail "ma" | fail "dr" | ((with_reducible apply And.intro); (case left => fail "sd")) | fail "none"))

set_option hygiene false in
local macro_rules | `(tactic| fail "dk") => `(tactic| simp only [sq_r, sr_l, co_r, String.reduceEq, reduceIte, kO_some, u_kVl, ci_r])
set_option hygiene false in
local macro_rules | `(tactic| fail "od") => `(tactic| repeat' (first | fail "st" | simp only [hx] | simp only [hy] | simp only [hz] | simp only [hu] | simp only [hv] | simp only [hw] | fail "ob" | fail "dk" | (with_reducible refine hw1 _ _ _ ?_) | (with_reducible refine hw2 _ _ _ ?_) | (with_reducible refine hw3 _ _ _ ?_)  | (rw [hs_ne (by omega)]) | (rw [hn_ne (by (first | omega | (simp only []; omega)))]) | fail "ma" | fail "dr" | fail "g1" | fail "none"))

theorem WCr_map {α : Type} {e : E} {Φ : EV → St → Prop} {Γ : Env} {h : AHeap} {σ : List (Option SV)} (as : List α) (g f : α → Val) {j n m : Nat} (hx : h.c n = some (.lst (as.map g))) (hm : as.length < m) (hl : as.length ≤ 16777216)
    (hv : ∀ a, a ∈ as → WE Γ e ⟨(wipe σ [j]).set j (some (.v (g a))), h⟩ (fun y s => WK y s fun v s => v = f a ∧ s.h = h ∧ wipe s.σ [j] = wipe σ [j]) (fun _ _ _ => False))
    (hΦ : Φ (.new (as.map f)) ⟨wipe σ [j], h⟩) : WCr Γ Φ (.name j) (.c (.bl true)) e [j] n false m 0 [] ⟨σ, h⟩ := by
  obtain ⟨J, hJ⟩ : ∃ J : Nat → List Val → St → Prop, ∀ i acc st, J i acc st ↔ acc = (as.take i).map f ∧ st.h = h ∧ wipe st.σ [j] = wipe σ [j] := ⟨_, fun _ _ _ => Iff.rfl⟩
  refine WCr_inv J (xs := as.map g) (by rw [List.length_map]; exact hm) ((hJ _ _ _).mpr ⟨by simp, rfl, rfl⟩) (fun i acc s hs => by rw [((hJ _ _ _).mp hs).2.1]; exact hx) ?_ ?_
  · intro i x acc st hx hs
    obtain ⟨rfl, e1, e2⟩ := (hJ _ _ _).mp hs
    rw [List.getElem?_map] at hx
    cases ea : as[i]? with
    | none => rw [ea] at hx; cases hx
    | some a =>
      rw [ea] at hx
      simp only [Option.map_some, Option.some.injEq] at hx
      subst hx
      have hi := (List.getElem?_eq_some_iff.mp ea).1
      rw [g_name]
      unfold kJ0
      rw [t_c, r_c, tr_b, kj_t, e1, e2]
      unfold WE
      refine W.mono (hv a (List.mem_of_getElem? ea)) (fun y s hy => ?_) fun _ _ _ z => z.elim
      unfold kJ2 WK
      refine W.mono hy (fun v s hv => ?_) fun _ _ _ z => z.elim
      refine ⟨?_, (hJ _ _ _).mpr ⟨?_, hv.2⟩⟩
      · rw [List.length_map, List.length_take]
        have : szL = 16777216 := rfl
        omega
      · rw [hv.1, List.take_succ, ea, List.map_append]
        rfl
  · intro acc st hs
    obtain ⟨rfl, e1, e2⟩ := (hJ _ _ _).mp hs
    rw [List.length_map, List.take_length, e1, e2]
    exact hΦ
section
variable {P : Prog} {lim k : Nat} {ns : List Int}
theorem ne_rows {rs : List Row} {a : Nat} {s : St} {Φ : EV → St → Prop} {Ψ : XK} (hx : s.h.c a = some (.lst (rs.map Row.v))) : W2 .ne (.val (.lst (rs.map Row.v))) (.val (.ref a)) s Φ Ψ = Φ (.val (.bl false)) s := by
  have e1 : EV.peek (.val (.lst (rs.map Row.v))) s = some (.lst (rs.map Row.v)) := rfl
  have e2 : EV.peek (.val (.ref a)) s = some (.lst (rs.map Row.v)) := by
    have e3 : EV.list (.val (.ref a)) s = some (rs.map Row.v) := by simp only [EV.list, hx]
    rw [pk_r, e3]
    rfl
  rw [o_ne, e1, e2, kO_some, kO_some, eq_rows, kO_some, decide_eq_true rfl]
  rfl
theorem dat_map {α : Type} {f : α → Val} (h : ∀ a, dat (f a) = true) : ∀ l : List α, datL (l.map f) = true
  | [] => rfl
  | a :: l => by simp only [List.map_cons, datL, h, dat_map h l, Bool.and_self]
theorem dat_mapM {α : Type} {f : α → Val} : ∀ l : List α, (∀ a, a ∈ l → dat (f a) = true) → datL (l.map f) = true
  | [], _ => rfl
  | a :: l, h => by simp only [List.map_cons, datL, h a (by simp), dat_mapM l (fun b hb => h b (by simp [hb])), Bool.and_self]
theorem dat_tup {l : List Val} (h : datL l = true) (hl : l.length ≤ 1000) : dat (.tup l) = true := by
  unfold dat
  rw [h, decide_eq_true (by omega)]
  rfl
theorem dat_lst {l : List Val} (h : datL l = true) (hl : l.length ≤ 1000) : dat (.lst l) = true := by
  unfold dat
  rw [h, decide_eq_true (by omega)]
  rfl
theorem dat_ifc {rs : List Row} (g : Good rs) : dat (.lst [expV rs, impV rs]) = true := by
  have l1 := g.l1
  have e1 : dat (expV rs) = true := dat_tup (dat_map (fun _ => rfl) rs) (by rw [List.length_map]; omega)
  have e2 : dat (impV rs) = true := dat_tup (dat_mapM rs (fun r hr => dat_tup (dat_map (fun _ => rfl) r.2) (by rw [List.length_map]; have := (g.any.r r hr).l; omega))) (by rw [List.length_map]; omega)
  exact dat_lst (by simp only [datL, e1, e2, Bool.and_self]) (by simp)
theorem dep_ifc (rs : List Row) : dep (.lst [expV rs, impV rs]) ≤ 8 := by
  have e1 : dep (expV rs) ≤ 2 := by
    have := dep_all (f := fun r : Row => Val.int r.1) (n := 1) (fun a => by simp [dep]) rs
    simp only [expV, dep]
    omega
  have e2 : dep (impV rs) ≤ 6 := by
    have := dep_all (f := fun r : Row => Val.tup (r.2.map pairV)) (n := 4) (fun a => by
      have := dep_all pair_dep a.2
      simp only [dep]
      omega) rs
    simp only [impV, dep]
    omega
  simp only [dep, depL]
  omega
theorem size_spec (hSi : P ("Interface" ++ "." ++ "size") = some IX.b_Interface_size) {rs : List Row} (hl : rs.length ≤ 1000) {h : AHeap} {Φ : Val → AHeap → Prop} {Ψ : String → Val → AHeap → Prop} (hΦ : Φ (.int (rs.length : Int)) h) : WR P lim (k + 1) ("Interface" ++ "." ++ "size") [.obj "Interface" [("exports", expV rs), ("imports", impV rs)]] h Φ Ψ := by
  rw [r_enter hSi rfl]
  unfold IX.b_Interface_size start
  simp only [List.map_cons, List.map_nil, List.cons_append, List.nil_append, Nat.reduceSub, List.replicate]
  unfold expV
  fail "oo"
  exact hΦ
theorem law_k02_spec (hlim : 100 < lim) (hL : P "law" = some IX.b_law_k02) (hPo : P "_law_pool" = some IX.b_law_pool) (hD : P "_law_draw" = some IX.b_law_draw) (hR : P "_law_rows" = some IX.b_law_rows_k02h) (hDr : P "_law_drawn_rows" = some IX.b_law_drawn_rows_k02h)
    (hBa : P "_law_bad" = some IX.b_law_bad) (hLf : P "_law_fits" = some IX.b_law_fits) (hU : P "_law_unlike" = some IX.b_law_unlike_k02) (hS : P "_law_same" = some IX.b_law_same) (hSh : P "_law_same__hot" = some IX.b_law_same__hot)
    (hI : P ("Interface" ++ ".__init__") = some IX.b_Interface_ini) (hF : P ("Interface" ++ "." ++ "fits") = some IX.b_Interface_fits) (hE : P ("Interface" ++ ".__eq__") = some IX.b_Interface_eqq) (hSi : P ("Interface" ++ "." ++ "size") = some IX.b_Interface_size) :
    WR P lim (k + 12) "law" [.scr (ns.map .int)] ⟨fun _ => none, 0⟩ (fun v _ => v = .bl true) fun _ _ _ => False := by
  rw [r_enter hL rfl]
  unfold IX.b_law_k02 start
  simp only [List.map_cons, List.map_nil, List.cons_append, List.nil_append, Nat.reduceSub, List.replicate]
  fail "st"
  refine pool_spec hPo fun hc => ?_
  fail "st"
  have hp0 : HasA ((⟨fun _ => none, 0⟩ : AHeap).new (Cell.lst [Val.lst (List.map Val.int ns), Val.int 0, Val.int 0, Val.int 1, Val.int 0, Val.int 0])) 0 ns := ⟨_, rfl, _, hc⟩
  have hf0 : ((⟨fun _ => none, 0⟩ : AHeap).new (Cell.lst [Val.lst (List.map Val.int ns), Val.int 0, Val.int 0, Val.int 1, Val.int 0, Val.int 0])).Fresh := Fresh.new (fun _ _ => rfl) _
  clear hc
  generalize (⟨fun _ => none, 0⟩ : AHeap).new (Cell.lst [Val.lst (List.map Val.int ns), Val.int 0, Val.int 0, Val.int 1, Val.int 0, Val.int 0]) = h0 at *
  refine drawn_rows_spec (k := k + 8) hD hR hDr hp0 hf0 fun rs a h1 an hx hf han => ?_
  clear hp0 hf0
  have hl := an.l
  have hp := hx
  fail "od"
  refine WCr_map rs Row.v Row.v hx (by omega) (by omega) (fun r hr => ?_) ?_
  · unfold Row.v
    fail "oo"
  fail "oo"
  refine law_bad_spec (k := k + 9) hBa hLf an hx (fun gd => ?_) (fun b bad => ?_)
  · fail "oo"
    rw [x_try]
    refine And.intro rfl ?_
    fail "oo"
    refine interface_any (k := k + 9) (rs := rs) hI hF an hf (fun _ => ?_) (fun b h' bad _ _ _ => (bad.no gd).elim)
    have ha2 : a < h1.bump.next := by rw [hb_next]; omega
    have hx2 : h1.bump.c a = some (.lst (rs.map Row.v)) := by rw [hb_c]; exact hx
    have hf2 := Fresh.bump hf
    clear hp
    generalize h1.bump = h2 at *
    have hp := hx2
    fail "oo"
    rw [tn_n]
    fail "oo"
    rw [ne_rows hx2]
    fail "oo"
    refine unlike_spec (k := k + 1) hU hS hI hF hE gd ha2 hx2 hf2 fun h3 gr => ?_
    have hx3 : h3.c a = some (.lst (rs.map Row.v)) := (gr.c a ha2).trans hx2
    clear hp
    have hp := hx3
    fail "od"
    refine WCr_map rs Row.v (fun r => .int r.1) hx3 (by omega) (by omega) (fun r hr => ?_) ?_
    · unfold Row.v
      fail "oo"
    fail "od"
    refine WCr_map rs Row.v (fun r => .tup (r.2.map pairV)) hx3 (by omega) (by omega) (fun r hr => ?_) ?_
    · unfold Row.v
      fail "oo"
    fail "oo"
    have eX : Val.tup (rs.map fun r => .int r.1) = expV rs := rfl
    have eM : Val.tup (rs.map fun r => .tup (r.2.map pairV)) = impV rs := rfl
    rw [eX, eM]
    unfold ifcV ifcF
    fail "oo"
    have dd := dat_ifc gd
    have dp := dep_ifc rs
    have gl := gd.l1
    have sm : ∀ {Φ Ψ} {h : AHeap} {v : Val}, dat v = true → dep v ≤ 8 → Φ (.bl true) h → WR P lim (k + 11) "_law_same" [v, v] h Φ Ψ := fun {Φ Ψ h v} d1 d2 z => same_refl (k := k + 11) hS rfl (by rw [den_dat _ d1]; exact d1) (by rw [den_dat _ d1]; omega) z
    refine sm dd dp ?_
    clear dd dp
    fail "oo"
    refine size_spec (k := k + 10) hSi (by omega) ?_
    fail "oo"
    refine sm rfl (by simp [dep]) ?_
    fail "oo"
    unfold kEqo1
    refine interface_any (k := k + 9) (rs := rs) hI hF an gr.f (fun _ => ?_) (fun b h' bad _ _ _ => (bad.no gd).elim)
    fail "oo"
    refine eqo_step (C := "Interface") (ifc_eq_spec (k := k + 10) hE rs rs ⟨_, rfl, ?_⟩)
    rw [decide_eq_true rfl]
    fail "oo"
    refine sm rfl (by simp [dep]) ?_
    fail "oo"
  · fail "oo"
    rw [x_try]
    refine And.intro rfl ?_
    fail "oo"
    refine interface_any (k := k + 9) (rs := rs) hI hF an hf (fun gd => (bad.no gd).elim) (fun b2 h' bad2 f2 c2 n2 => ?_)
    have eb := bad.one bad2
    subst eb
    have hx2 : h'.c a = some (.lst (rs.map Row.v)) := (c2 a han).trans hx
    clear hp
    have hp := hx2
    rw [tx_s (by decide) (by decide)]
    fail "oo"
    · exact absurd hq (by decide)
    rw [ne_rows hx2]
    fail "oo"
    · refine same_hot_spec (k := k + 10) hSh _ _ ?_
      fail "oo"
      rw [te_r]
      refine And.intro rfl ?_
      fail "oo"
    · exact absurd hq (by decide)
end
theorem law_k02 {lim : Nat} {ns : List Int} (hns : ns.length ≤ 63) (hlim : 100 < lim) : ∃ h', run IX.P_k02 lim (20 + 1) "law" [.scr (ns.map .int)] ⟨fun _ => none, 0⟩ = .ok (.bl true) h' :=
  run_of_WR (law_k02_spec (k := 9) hlim IX.p_k02_law IX.p_k02_law_pool IX.p_k02_law_draw IX.p_k02_law_rows IX.p_k02_law_drawn_rows IX.p_k02_law_bad IX.p_k02_law_fits IX.p_k02_law_unlike IX.p_k02_law_same IX.p_k02_law_same__hot
    IX.p_k02_Interface_ini IX.p_k02_Interface_fits IX.p_k02_Interface_eqq IX.p_k02_Interface_size)
end IA

set_option Elab.async false
set_option linter.all false
set_option maxRecDepth 4000
set_option maxHeartbeats 0
namespace BX
open PySem PySem.Spec PyProof.Rows L2 He BL
def P : Program := PySem.Challenge.rw_blameless_k02_interfaces.prog
def top (i : Nat) : Stmt := PySem.Challenge.pw_blameless_k02_interfaces.main.body.getD i (.Pass ⟨0, 0, 0, 0⟩)
abbrev s_Interface_ini : Stmt := inClass (top 8) 0
def d_Interface_ini : He.DefD := ⟨("Interface", some "__init__"), "__init__", "Interface.__init__", defArgs s_Interface_ini, defBody s_Interface_ini, defScope s_Interface_ini, [], []⟩
abbrev s_Interface_eqq : Stmt := inClass (top 8) 1
def d_Interface_eqq : He.DefD := ⟨("Interface", some "__eq__"), "__eq__", "Interface.__eq__", defArgs s_Interface_eqq, defBody s_Interface_eqq, defScope s_Interface_eqq, [], []⟩
abbrev s_Interface_fits : Stmt := inClass (top 8) 2
def d_Interface_fits : He.DefD := ⟨("Interface", some "fits"), "fits", "Interface.fits", defArgs s_Interface_fits, defBody s_Interface_fits, defScope s_Interface_fits, [], []⟩
abbrev s_Interface_size : Stmt := inClass (top 8) 3
def d_Interface_size : He.DefD := ⟨("Interface", some "size"), "size", "Interface.size", defArgs s_Interface_size, defBody s_Interface_size, defScope s_Interface_size, [], []⟩
abbrev s_law_pool : Stmt := top 10
def d_law_pool : He.DefD := ⟨("_law_pool", none), "_law_pool", "_law_pool", defArgs s_law_pool, defBody s_law_pool, defScope s_law_pool, [], []⟩
abbrev s_law_draw : Stmt := top 11
def d_law_draw : He.DefD := ⟨("_law_draw", none), "_law_draw", "_law_draw", defArgs s_law_draw, defBody s_law_draw, defScope s_law_draw, [], []⟩
abbrev s_law_spend : Stmt := top 12
def d_law_spend : He.DefD := ⟨("_law_spend", none), "_law_spend", "_law_spend", defArgs s_law_spend, defBody s_law_spend, defScope s_law_spend, [], []⟩
abbrev s_law_few : Stmt := top 13
def d_law_few : He.DefD := ⟨("_law_few", none), "_law_few", "_law_few", defArgs s_law_few, defBody s_law_few, defScope s_law_few, [], []⟩
abbrev s_law_number : Stmt := top 14
def d_law_number : He.DefD := ⟨("_law_number", none), "_law_number", "_law_number", defArgs s_law_number, defBody s_law_number, defScope s_law_number, [], []⟩
abbrev s_law_same : Stmt := top 15
def d_law_same : He.DefD := ⟨("_law_same", none), "_law_same", "_law_same", defArgs s_law_same, defBody s_law_same, defScope s_law_same, [], []⟩
abbrev s_law_rows : Stmt := top 16
def d_law_rows : He.DefD := ⟨("_law_rows", none), "_law_rows", "_law_rows", defArgs s_law_rows, defBody s_law_rows, defScope s_law_rows, [], []⟩
abbrev s_law_fits : Stmt := top 17
def d_law_fits : He.DefD := ⟨("_law_fits", none), "_law_fits", "_law_fits", defArgs s_law_fits, defBody s_law_fits, defScope s_law_fits, [], []⟩
abbrev s_law_bad : Stmt := top 18
def d_law_bad : He.DefD := ⟨("_law_bad", none), "_law_bad", "_law_bad", defArgs s_law_bad, defBody s_law_bad, defScope s_law_bad, [], []⟩
abbrev s_law_drawn_rows : Stmt := top 19
def d_law_drawn_rows : He.DefD := ⟨("_law_drawn_rows", none), "_law_drawn_rows", "_law_drawn_rows", defArgs s_law_drawn_rows, defBody s_law_drawn_rows, defScope s_law_drawn_rows, [], []⟩
abbrev s_law_unlike : Stmt := top 20
def d_law_unlike : He.DefD := ⟨("_law_unlike", none), "_law_unlike", "_law_unlike", defArgs s_law_unlike, defBody s_law_unlike, defScope s_law_unlike, [], []⟩
abbrev s_law : Stmt := top 21
def d_law : He.DefD := ⟨("law", none), "law", "law", defArgs s_law, defBody s_law, defScope s_law, [], []⟩
def fn : List He.DefD := [d_Interface_ini, d_Interface_eqq, d_Interface_fits, d_Interface_size, d_law_pool, d_law_draw, d_law_spend, d_law_few, d_law_number, d_law_same, d_law_rows, d_law_fits, d_law_bad, d_law_drawn_rows, d_law_unlike, d_law]
def qs : BH.Qs := [(Fa.glo "_law_pool").ok,
  (Fa.glo "_law_draw").ok,
  (Fa.glo "_law_spend").ok,
  (Fa.glo "_law_few").ok,
  (Fa.glo "_law_number").ok,
  (Fa.glo "_law_same").ok,
  (Fa.glo "_law_rows").ok,
  (Fa.glo "_law_fits").ok,
  (Fa.glo "_law_bad").ok,
  (Fa.glo "_law_drawn_rows").ok,
  (Fa.glo "_law_unlike").ok,
  (Fa.glo "law").ok,
  (Fa.glo "BlameError").ok,
  (Fa.glo "BadText").ok,
  BE.badB P.main.file (P.main.scope.names.lookup ("super" : Str)).isSome "BadText" "at",
  (Fa.glo "BadInterface").ok,
  BE.badB P.main.file (P.main.scope.names.lookup ("super" : Str)).isSome "BadInterface" "at",
  (Fa.glo "Interface").ok,
  (Fa.cls "Interface").ok,
  (Fa.mkr "Interface").ok,
  (Fa.meth "Interface" "__eq__").ok,
  (Fa.meth "Interface" "fits").ok,
  (Fa.meth "Interface" "size").ok,
  (Fa.noat "Interface" "exports").ok,
  (Fa.noat "Interface" "imports").ok,
  BE.iscB "Interface",
  BE.kitB2 "Interface" "Interface" true,
  BE.xcB "BadText" "at",
  BE.exB "BadText" "BlameError" true,
  BE.kitB2 "BadText" "BadText" true,
  BE.kitB2 "BadText" "BadInterface" false,
  BE.xcB "BadInterface" "at",
  BE.exB "BadInterface" "BlameError" true,
  BE.kitB2 "BadInterface" "BadText" false,
  BE.kitB2 "BadInterface" "BadInterface" true,
  (Fa.free "ValueError").ok,
  (Fa.free "min").ok,
  (Fa.free "isinstance").ok,
  (Fa.free "int").ok,
  (Fa.free "range").ok,
  (Fa.free "tuple").ok,
  (Fa.free "enumerate").ok,
  (Fa.free "len").ok,
  (Fa.free "list").ok,
  (Fa.free "bool").ok,
  (Fa.free "str").ok,
  (Fa.free "super").ok,
  (Fa.int "MOST_COMPONENTS" (8)).ok,
  (Fa.int "MOST_EXPORTS" (8)).ok,
  (Fa.int "MOST_IMPORTS" (8)).ok]
structure Tx (K : PySem.W.Frag) (mg : Str → Option Value) : Prop where
  ex : ∃ h : Heap, K.In h ∧ h.Ns mainGlobals mg
  c : BH.SaysX qs fn K
section
variable {K : PySem.W.Frag} {mg : Str → Option Value}
theorem Tx.g__law_pool (T : Tx K mg) : mg "_law_pool" = some (.ref (ga K "_law_pool")) := let ⟨_, X, G⟩ := T.ex; He.glo_ok X G (T.c.fact 0 rfl)
theorem Tx.g__law_draw (T : Tx K mg) : mg "_law_draw" = some (.ref (ga K "_law_draw")) := let ⟨_, X, G⟩ := T.ex; He.glo_ok X G (T.c.fact 1 rfl)
theorem Tx.g__law_same (T : Tx K mg) : mg "_law_same" = some (.ref (ga K "_law_same")) := let ⟨_, X, G⟩ := T.ex; He.glo_ok X G (T.c.fact 5 rfl)
theorem Tx.g__law_rows (T : Tx K mg) : mg "_law_rows" = some (.ref (ga K "_law_rows")) := let ⟨_, X, G⟩ := T.ex; He.glo_ok X G (T.c.fact 6 rfl)
theorem Tx.g__law_fits (T : Tx K mg) : mg "_law_fits" = some (.ref (ga K "_law_fits")) := let ⟨_, X, G⟩ := T.ex; He.glo_ok X G (T.c.fact 7 rfl)
theorem Tx.g__law_bad (T : Tx K mg) : mg "_law_bad" = some (.ref (ga K "_law_bad")) := let ⟨_, X, G⟩ := T.ex; He.glo_ok X G (T.c.fact 8 rfl)
theorem Tx.g__law_drawn_rows (T : Tx K mg) : mg "_law_drawn_rows" = some (.ref (ga K "_law_drawn_rows")) := let ⟨_, X, G⟩ := T.ex; He.glo_ok X G (T.c.fact 9 rfl)
theorem Tx.g__law_unlike (T : Tx K mg) : mg "_law_unlike" = some (.ref (ga K "_law_unlike")) := let ⟨_, X, G⟩ := T.ex; He.glo_ok X G (T.c.fact 10 rfl)
theorem Tx.g_law (T : Tx K mg) : mg "law" = some (.ref (ga K "law")) := let ⟨_, X, G⟩ := T.ex; He.glo_ok X G (T.c.fact 11 rfl)
theorem Tx.g_BlameError (T : Tx K mg) : mg "BlameError" = some (.ref (ga K "BlameError")) := let ⟨_, X, G⟩ := T.ex; He.glo_ok X G (T.c.fact 12 rfl)
theorem Tx.g_BadText (T : Tx K mg) : mg "BadText" = some (.ref (ga K "BadText")) := let ⟨_, X, G⟩ := T.ex; He.glo_ok X G (T.c.fact 13 rfl)
theorem Tx.g_BadInterface (T : Tx K mg) : mg "BadInterface" = some (.ref (ga K "BadInterface")) := let ⟨_, X, G⟩ := T.ex; He.glo_ok X G (T.c.fact 15 rfl)
theorem Tx.b_BadInterface (T : Tx K mg) : PySem.BadX.BadTxt P K mg "BadInterface" "at" (ga K "BadInterface") (fAd K ("BadInterface", some "__init__")) := let ⟨_, X, G⟩ := T.ex; BE.badB_ok X G (T.c.fact 16 rfl)
theorem Tx.g_Interface (T : Tx K mg) : mg "Interface" = some (.ref (ga K "Interface")) := let ⟨_, X, G⟩ := T.ex; He.glo_ok X G (T.c.fact 17 rfl)
theorem Tx.cls_Interface (T : Tx K mg) : Cls K (ga K "Interface") := He.cls_ok (T.c.fact 18 rfl)
theorem Tx.mkr_Interface (T : Tx K mg) : Mk K (ga K "Interface") (ma K (ga K "Interface") "__init__") := He.mkr_ok (T.c.fact 19 rfl)
theorem Tx.meth_Interface___eq__ (T : Tx K mg) : Meth K (ga K "Interface") "__eq__" (ma K (ga K "Interface") "__eq__") := He.meth_ok (T.c.fact 20 rfl)
theorem Tx.meth_Interface_fits (T : Tx K mg) : Meth K (ga K "Interface") "fits" (ma K (ga K "Interface") "fits") := He.meth_ok (T.c.fact 21 rfl)
theorem Tx.meth_Interface_size (T : Tx K mg) : Meth K (ga K "Interface") "size" (ma K (ga K "Interface") "size") := He.meth_ok (T.c.fact 22 rfl)
theorem Tx.noat_Interface_exports (T : Tx K mg) : NoAttr K (ga K "Interface") "exports" := He.noat_ok (T.c.fact 23 rfl)
theorem Tx.noat_Interface_imports (T : Tx K mg) : NoAttr K (ga K "Interface") "imports" := He.noat_ok (T.c.fact 24 rfl)
theorem Tx.isc_Interface (T : Tx K mg) : BE.Isc K "Interface" := BE.isc_ok (T.c.fact 25 rfl)
theorem Tx.kit_Interface_Interface (T : Tx K mg) : PySem.W.kitOne K (.ref (ga K "Interface")) (.ref (ga K "Interface")) = some true := BE.kit2_ok (T.c.fact 26 rfl)
theorem Tx.xc_BadText (T : Tx K mg) : IS.Xc K (ga K "BadText") "at" := BE.xc_ok (T.c.fact 27 rfl)
theorem Tx.ex_BadText_BlameError (T : Tx K mg) : PySem.W.exmOne K (.ref (ga K "BadText")) (.ref (ga K "BlameError")) = some true := BE.ex_ok (T.c.fact 28 rfl)
theorem Tx.kx_BadText_BadText (T : Tx K mg) : PySem.W.kitOne K (.ref (ga K "BadText")) (.ref (ga K "BadText")) = some true := BE.kit2_ok (T.c.fact 29 rfl)
theorem Tx.kx_BadText_BadInterface (T : Tx K mg) : PySem.W.kitOne K (.ref (ga K "BadText")) (.ref (ga K "BadInterface")) = some false := BE.kit2_ok (T.c.fact 30 rfl)
theorem Tx.xc_BadInterface (T : Tx K mg) : IS.Xc K (ga K "BadInterface") "at" := BE.xc_ok (T.c.fact 31 rfl)
theorem Tx.ex_BadInterface_BlameError (T : Tx K mg) : PySem.W.exmOne K (.ref (ga K "BadInterface")) (.ref (ga K "BlameError")) = some true := BE.ex_ok (T.c.fact 32 rfl)
theorem Tx.kx_BadInterface_BadText (T : Tx K mg) : PySem.W.kitOne K (.ref (ga K "BadInterface")) (.ref (ga K "BadText")) = some false := BE.kit2_ok (T.c.fact 33 rfl)
theorem Tx.kx_BadInterface_BadInterface (T : Tx K mg) : PySem.W.kitOne K (.ref (ga K "BadInterface")) (.ref (ga K "BadInterface")) = some true := BE.kit2_ok (T.c.fact 34 rfl)
theorem Tx.f_min (T : Tx K mg) : mg "min" = none := let ⟨_, X, G⟩ := T.ex; He.free_ok X G (T.c.fact 36 rfl)
theorem Tx.f_isinstance (T : Tx K mg) : mg "isinstance" = none := let ⟨_, X, G⟩ := T.ex; He.free_ok X G (T.c.fact 37 rfl)
theorem Tx.f_int (T : Tx K mg) : mg "int" = none := let ⟨_, X, G⟩ := T.ex; He.free_ok X G (T.c.fact 38 rfl)
theorem Tx.f_range (T : Tx K mg) : mg "range" = none := let ⟨_, X, G⟩ := T.ex; He.free_ok X G (T.c.fact 39 rfl)
theorem Tx.f_tuple (T : Tx K mg) : mg "tuple" = none := let ⟨_, X, G⟩ := T.ex; He.free_ok X G (T.c.fact 40 rfl)
theorem Tx.f_enumerate (T : Tx K mg) : mg "enumerate" = none := let ⟨_, X, G⟩ := T.ex; He.free_ok X G (T.c.fact 41 rfl)
theorem Tx.f_len (T : Tx K mg) : mg "len" = none := let ⟨_, X, G⟩ := T.ex; He.free_ok X G (T.c.fact 42 rfl)
theorem Tx.f_list (T : Tx K mg) : mg "list" = none := let ⟨_, X, G⟩ := T.ex; He.free_ok X G (T.c.fact 43 rfl)
theorem Tx.f_bool (T : Tx K mg) : mg "bool" = none := let ⟨_, X, G⟩ := T.ex; He.free_ok X G (T.c.fact 44 rfl)
theorem Tx.f_str (T : Tx K mg) : mg "str" = none := let ⟨_, X, G⟩ := T.ex; He.free_ok X G (T.c.fact 45 rfl)
theorem Tx.x_MOST_COMPONENTS (T : Tx K mg) : ∃ t, mg "MOST_COMPONENTS" = some (.int (8) t) := let ⟨_, X, G⟩ := T.ex; He.int_ok X G (T.c.fact 47 rfl)
theorem Tx.x_MOST_EXPORTS (T : Tx K mg) : ∃ t, mg "MOST_EXPORTS" = some (.int (8) t) := let ⟨_, X, G⟩ := T.ex; He.int_ok X G (T.c.fact 48 rfl)
theorem Tx.x_MOST_IMPORTS (T : Tx K mg) : ∃ t, mg "MOST_IMPORTS" = some (.int (8) t) := let ⟨_, X, G⟩ := T.ex; He.int_ok X G (T.c.fact 49 rfl)
end
end BX
set_option Elab.async false
set_option linter.all false
set_option maxRecDepth 100000
set_option maxHeartbeats 4000000
namespace BX
open PySem PySem.Spec PyProof.Rows L2 He BL IS
section
variable {w : World} {K : PySem.W.Frag} {mg : Str → Option Value} {base : Heap} {lim : Nat}
theorem p_law_same : IX.P_k02 "_law_same" = some IX.b_law_same := IX.p_k02_law_same
theorem p_Interface_fits : IX.P_k02 ("Interface" ++ "." ++ "fits") = some IX.b_Interface_fits := IX.p_k02_Interface_fits
theorem p_Interface_ini : IX.P_k02 ("Interface" ++ ".__init__") = some IX.b_Interface_ini := IX.p_k02_Interface_ini
theorem p_Interface_eqq : IX.P_k02 ("Interface" ++ ".__eq__") = some IX.b_Interface_eqq := IX.p_k02_Interface_eqq
theorem p_Interface_size : IX.P_k02 ("Interface" ++ "." ++ "size") = some IX.b_Interface_size := IX.p_k02_Interface_size
theorem p_law_unlike : IX.P_k02 "_law_unlike" = some IX.b_law_unlike_k02 := IX.p_k02_law_unlike
theorem p_law_same__hot : IX.P_k02 "_law_same__hot" = some IX.b_law_same__hot := IX.p_k02_law_same__hot
theorem p_law_fits : IX.P_k02 "_law_fits" = some IX.b_law_fits := IX.p_k02_law_fits
theorem p_law_bad : IX.P_k02 "_law_bad" = some IX.b_law_bad := IX.p_k02_law_bad
theorem p_law_draw : IX.P_k02 "_law_draw" = some IX.b_law_draw := IX.p_k02_law_draw
theorem p_law_rows : IX.P_k02 "_law_rows" = some IX.b_law_rows_k02h := IX.p_k02_law_rows
theorem p_law_drawn_rows : IX.P_k02 "_law_drawn_rows" = some IX.b_law_drawn_rows_k02h := IX.p_k02_law_drawn_rows
theorem p_law_pool : IX.P_k02 "_law_pool" = some IX.b_law_pool := IX.p_k02_law_pool
theorem p_law : IX.P_k02 "law" = some IX.b_law_k02 := IX.p_k02_law
/-- every def does what the small machine does, j calls deep -/
structure Fam (w : World) (K : PySem.W.Frag) (mg : Str → Option Value) (base : Heap) (lim j : Nat) : Prop where
  q_law_same__hot : CalQ P w K mg base (L2.CX P w) (2 * j) (ga K "_law_same") ["_law_actual", "_law_due"] (SpF K (IA.run IX.P_k02 lim j "_law_same__hot"))
  c_law_same : Cal P w K mg base (L2.CX P w) (2 * j) (ga K "_law_same") ["_law_actual", "_law_due"] (SpF K (IA.run IX.P_k02 lim j "_law_same"))
  c_Interface_fits : Cal P w K mg base (L2.CX P w) (2 * j) (ma K (ga K "Interface") "fits") ["self", "at"] (SpF K (IA.run IX.P_k02 lim j ("Interface" ++ "." ++ "fits")))
  c_Interface_ini : Cal P w K mg base (L2.CX P w) (2 * j) (ma K (ga K "Interface") "__init__") ["self", "rows"] (SpF K (IA.run IX.P_k02 lim j ("Interface" ++ ".__init__")))
  c_Interface_eqq : Cal P w K mg base (L2.CX P w) (2 * j) (ma K (ga K "Interface") "__eq__") ["self", "other"] (SpF K (IA.run IX.P_k02 lim j ("Interface" ++ ".__eq__")))
  c_Interface_size : Cal P w K mg base (L2.CX P w) (2 * j) (ma K (ga K "Interface") "size") ["self"] (SpF K (IA.run IX.P_k02 lim j ("Interface" ++ "." ++ "size")))
  c_law_unlike : Cal P w K mg base (L2.CX P w) (2 * j) (ga K "_law_unlike") ["_law_rows_here", "_law_made"] (SpF K (IA.run IX.P_k02 lim j "_law_unlike"))
  c_law_fits : Cal P w K mg base (L2.CX P w) (2 * j) (ga K "_law_fits") ["_law_rows_here", "_law_at"] (SpF K (IA.run IX.P_k02 lim j "_law_fits"))
  c_law_bad : Cal P w K mg base (L2.CX P w) (2 * j) (ga K "_law_bad") ["_law_rows_here"] (SpF K (IA.run IX.P_k02 lim j "_law_bad"))
  c_law_draw : Cal P w K mg base (L2.CX P w) (2 * j) (ga K "_law_draw") ["_law_pool_here", "_law_size"] (SpF K (IA.run IX.P_k02 lim j "_law_draw"))
  c_law_rows : Cal P w K mg base (L2.CX P w) (2 * j) (ga K "_law_rows") ["_law_pool_here", "_law_most"] (SpF K (IA.run IX.P_k02 lim j "_law_rows"))
  c_law_drawn_rows : Cal P w K mg base (L2.CX P w) (2 * j) (ga K "_law_drawn_rows") ["_law_pool_here"] (SpF K (IA.run IX.P_k02 lim j "_law_drawn_rows"))
  c_law_pool : Cal P w K mg base (L2.CX P w) (2 * j) (ga K "_law_pool") ["_law_script", "_law_budget"] (SpF K (IA.run IX.P_k02 lim j "_law_pool"))
theorem sc_law_same : FnScope ["_law_actual", "_law_due", "_law_k"] ["_law_actual", "_law_due"] (defScope s_law_same) := ⟨rfl, rfl, rfl, by decide +kernel, rfl, by decide +kernel, by decide +kernel⟩
theorem st_law_same (T : Tx K mg) {j : Nat} (h : Fam w K mg base lim j) : Cal P w K mg base (L2.CX P w) (2 * (j + 1)) (ga K "_law_same") ["_law_actual", "_law_due"] (SpF K (IA.run IX.P_k02 lim (j + 1) "_law_same")) := by
  obtain ⟨fd, F⟩ := T.c.def_ 9 rfl
  refine Cal.ia (k := 2 * j + 1) F (F.bindsN fun _ _ _ _ _ _ us hl => match us, hl with | [_, _], _ => rfl) sc_law_same p_law_same rfl rfl (by decide) (fun cdv A outer s H E hRm tk lp => ?_)
  have sc := sc_law_same
  have hu64 := hRm.units
  have hu65 := units65 hRm
  exact sss_cons (ss_if (SB.st (sb_or (st_truth (se_isi (ty := .tuple) (n := "tuple") (by rfl) T.f_isinstance T.f_tuple (se_var (pv 1)))) (sb_or1 (st_truth (se_isi (ty := .list) (n := "list") (by rfl) T.f_isinstance T.f_list (se_var (pv 1))))))) (sss_cons (ss_if (SB.st (sb_or (st_cmp (k_ne K hu64) ok_ne (se_isi (ty := .tuple) (n := "tuple") (by rfl) T.f_isinstance T.f_tuple (se_var (pv 1))) (se_isi (ty := .tuple) (n := "tuple") (by rfl) T.f_isinstance T.f_tuple (se_var (pv 0))) (nomark _)) (sb_or1 (st_cmp (k_ne K hu64) ok_ne (se_isi (ty := .list) (n := "list") (by rfl) T.f_isinstance T.f_list (se_var (pv 1))) (se_isi (ty := .list) (n := "list") (by rfl) T.f_isinstance T.f_list (se_var (pv 0))) (nomark _))))) (sss_cons (ss_ret se_bl) sss_nil) sss_nil)
      (sss_cons (ss_if (st_cmp (k_ne K hu64) ok_ne (se_biB (k_len K) bi_len (by rfl) T.f_len (by decide +kernel) (sw_cons (se_var (pv 0)) sw_nil)) (se_biB (k_len K) bi_len (by rfl) T.f_len (by decide +kernel) (sw_cons (se_var (pv 1)) sw_nil)) (nomark _)) (sss_cons (ss_ret se_bl) sss_nil) sss_nil)
      (sss_cons (ss_for lp rfl (si_rng (by rfl) T.f_range (se_biB (k_len K) bi_len (by rfl) T.f_len (by decide +kernel) (sw_cons (se_var (pv 1)) sw_nil))) (sg_name (pg_name (i := 2) sc.nd rfl (Or.inl rfl))) (sss_cons (ss_if (st_not (st_truth (se_call h.c_law_same (hRm.mono (by omega)) tk (by rfl) T.g__law_same (sv_cons (se_ix (se_var (pv 0)) (se_var (pv 2))) (sv_cons (se_ix (se_var (pv 1)) (se_var (pv 2))) sv_nil))))) (sss_cons (ss_ret se_bl) sss_nil) sss_nil) sss_nil))
      (sss_cons (ss_ret se_bl) sss_nil)))) sss_nil)
    (sss_cons (ss_if (SB.st (sb_or (st_isn (se_var (pv 1))) (sb_or1 (st_truth (se_isi (ty := .bool) (n := "bool") (by rfl) T.f_isinstance T.f_bool (se_var (pv 1))))))) (sss_cons (ss_ret (se_and (se_cmp (k_eq K hu64) ok_eq (se_isn (se_var (pv 0))) (se_isn (se_var (pv 1))) (nomark _)) (se_and (se_or (se_isn (se_var (pv 1))) (se_one (se_isi (ty := .bool) (n := "bool") (by rfl) T.f_isinstance T.f_bool (se_var (pv 0))))) (se_one (se_cmp (k_eq K hu64) ok_eq (se_var (pv 0)) (se_var (pv 1)) (nomark _)))))) sss_nil) sss_nil)
    (sss_cons (ss_if (st_truth (se_isi (ty := .int) (n := "int") (by rfl) T.f_isinstance T.f_int (se_var (pv 1)))) (sss_cons (ss_ret (se_and (se_isi (ty := .int) (n := "int") (by rfl) T.f_isinstance T.f_int (se_var (pv 0))) (se_and (se_not (se_isi (ty := .bool) (n := "bool") (by rfl) T.f_isinstance T.f_bool (se_var (pv 0)))) (se_one (se_cmp (k_eq K hu64) ok_eq (se_var (pv 0)) (se_var (pv 1)) (nomark _)))))) sss_nil) sss_nil)
    (sss_cons (ss_ret (se_and (se_isi (ty := .str) (n := "str") (by rfl) T.f_isinstance T.f_str (se_var (pv 0))) (se_one (se_cmp (k_eq K hu64) ok_eq (se_var (pv 0)) (se_var (pv 1)) (nomark _))))) sss_nil)))
theorem sc_Interface_fits : FnScope ["self", "at", "place", "pair", "component", "procedure"] ["self", "at"] (defScope s_Interface_fits) := ⟨rfl, rfl, rfl, by decide +kernel, rfl, by decide +kernel, by decide +kernel⟩
theorem st_Interface_fits (T : Tx K mg) {j : Nat} (h : Fam w K mg base lim j) : Cal P w K mg base (L2.CX P w) (2 * (j + 1)) (ma K (ga K "Interface") "fits") ["self", "at"] (SpF K (IA.run IX.P_k02 lim (j + 1) ("Interface" ++ "." ++ "fits"))) := by
  obtain ⟨fd, F⟩ := T.c.def_ 2 rfl
  refine Cal.ia (k := 2 * j + 1) F (F.bindsN fun _ _ _ _ _ _ us hl => match us, hl with | [_, _], _ => rfl) sc_Interface_fits p_Interface_fits rfl rfl (by decide) (fun cdv A outer s H E hRm tk lp => ?_)
  have sc := sc_Interface_fits
  have hu64 := hRm.units
  have hu65 := units65 hRm
  exact sss_cons (ss_if (SB.st (sb_or (st_not (st_ch BL.u_le ok_le BL.u_le ok_le se_int (se_ix (se_fld (flds_cons T.cls_Interface T.noat_Interface_exports flds_nil) (se_var (pv 0))) (se_var (pv 1))) (se_gI (by rfl) T.x_MOST_EXPORTS))) (sb_or1 (st_cmp BL.u_gt ok_gt (se_biB (k_len K) bi_len (by rfl) T.f_len (by decide +kernel) (sw_cons (se_ix (se_fld (flds_cons T.cls_Interface T.noat_Interface_imports flds_nil) (se_var (pv 0))) (se_var (pv 1))) sw_nil)) (se_gI (by rfl) T.x_MOST_IMPORTS) (nomark _))))) (sss_cons (ss_ret se_bl) sss_nil) sss_nil)
    (sss_cons (ss_for lp rfl (si_enum (by rfl) T.f_enumerate (se_ix (se_fld (flds_cons T.cls_Interface T.noat_Interface_imports flds_nil) (se_var (pv 0))) (se_var (pv 1)))) (sg_tup (n := 2) rfl (sgs_cons (sg_name (pg_name (i := 2) sc.nd rfl (Or.inl rfl))) (sgs_cons (sg_name (pg_name (i := 3) sc.nd rfl (Or.inl rfl))) sgs_nil))) (sss_cons (ss_asg (se_var (pv 3)) (sg_tup (n := 2) rfl (sgs_cons (sg_name (pg_name (i := 4) sc.nd rfl (Or.inl rfl))) (sgs_cons (sg_name (pg_name (i := 5) sc.nd rfl (Or.inl rfl))) sgs_nil))))
      (sss_cons (ss_if (SB.st (sb_or (st_cmp (k_eq K hu64) ok_eq (se_var (pv 4)) (se_var (pv 1)) (nomark _)) (sb_or (st_not (st_ch BL.u_le ok_le BL.u_lt ok_lt se_int (se_var (pv 4)) (se_biB (k_len K) bi_len (by rfl) T.f_len (by decide +kernel) (sw_cons (se_fld (flds_cons T.cls_Interface T.noat_Interface_exports flds_nil) (se_var (pv 0))) sw_nil)))) (sb_or1 (st_cmp (k_in K hu65) ok_mem (se_var (pv 3)) (se_sl (se_ix (se_fld (flds_cons T.cls_Interface T.noat_Interface_imports flds_nil) (se_var (pv 0))) (se_var (pv 1))) so_none (so_some (se_var (pv 2)))) (by with_unfolding_all rfl)))))) (sss_cons (ss_ret se_bl) sss_nil) sss_nil)
      (sss_cons (ss_if (st_not (st_ch BL.u_le ok_le BL.u_lt ok_lt se_int (se_var (pv 5)) (se_ix (se_fld (flds_cons T.cls_Interface T.noat_Interface_exports flds_nil) (se_var (pv 0))) (se_var (pv 4))))) (sss_cons (ss_ret se_bl) sss_nil) sss_nil) sss_nil))))
    (sss_cons (ss_ret se_bl) sss_nil))
theorem sc_Interface_ini : FnScope ["self", "rows", "row", "at"] ["self", "rows"] (defScope s_Interface_ini) := ⟨rfl, rfl, rfl, by decide +kernel, rfl, by decide +kernel, by decide +kernel⟩
theorem st_Interface_ini (T : Tx K mg) {j : Nat} (h : Fam w K mg base lim j) : Cal P w K mg base (L2.CX P w) (2 * (j + 1)) (ma K (ga K "Interface") "__init__") ["self", "rows"] (SpF K (IA.run IX.P_k02 lim (j + 1) ("Interface" ++ ".__init__"))) := by
  obtain ⟨fd, F⟩ := T.c.def_ 0 rfl
  refine Cal.ia (k := 2 * j + 1) F (F.bindsN fun _ _ _ _ _ _ us hl => match us, hl with | [_, _], _ => rfl) sc_Interface_ini p_Interface_ini rfl rfl (by decide) (fun cdv A outer s H E hRm tk lp => ?_)
  have sc := sc_Interface_ini
  have hu64 := hRm.units
  have hu65 := units65 hRm
  exact sss_cons (ss_fld (flds_cons T.cls_Interface T.noat_Interface_exports flds_nil) (se_biT (k_tuple K) bi_tuple (by rfl) T.f_tuple (by decide +kernel) (sw_cons (se_lc rfl sc.nd (si_seq (se_var (pv 1))) (blkOk_by (own := [("row", 2)]) (N := ["self", "rows", "row", "at"]) (sc := defScope s_Interface_ini) (by decide +kernel)) (fun _ _ _ _ _ => sg_name (pg_name (i := 2) sc.nd rfl (Or.inl rfl))) (fun _ _ _ _ _ => sps_nil) (fun _ _ _ _ _ => (se_ix (se_var (pv 2)) se_int))) sw_nil)) (se_var (pv 0)))
    (sss_cons (ss_fld (flds_cons T.cls_Interface T.noat_Interface_imports flds_nil) (se_biT (k_tuple K) bi_tuple (by rfl) T.f_tuple (by decide +kernel) (sw_cons (se_lc rfl sc.nd (si_seq (se_var (pv 1))) (blkOk_by (own := [("row", 2)]) (N := ["self", "rows", "row", "at"]) (sc := defScope s_Interface_ini) (by decide +kernel)) (fun _ _ _ _ _ => sg_name (pg_name (i := 2) sc.nd rfl (Or.inl rfl))) (fun _ _ _ _ _ => sps_nil) (fun _ _ _ _ _ => (se_biT (k_tuple K) bi_tuple (by rfl) T.f_tuple (by decide +kernel) (sw_cons (se_ix (se_var (pv 2)) se_int) sw_nil)))) sw_nil)) (se_var (pv 0)))
    (sss_cons (ss_if (st_not (st_ch BL.u_le ok_le BL.u_le ok_le se_int (se_biB (k_len K) bi_len (by rfl) T.f_len (by decide +kernel) (sw_cons (se_fld (flds_cons T.cls_Interface T.noat_Interface_exports flds_nil) (se_var (pv 0))) sw_nil)) (se_gI (by rfl) T.x_MOST_COMPONENTS))) (sss_cons (ss_raise (D := "BadInterface") (fl := "at") rfl T.b_BadInterface hRm tk (se_biB (u_min2 rfl) bi_min (by rfl) T.f_min (by decide +kernel) (sw_cons (se_biB (k_len K) bi_len (by rfl) T.f_len (by decide +kernel) (sw_cons (se_fld (flds_cons T.cls_Interface T.noat_Interface_exports flds_nil) (se_var (pv 0))) sw_nil)) (sw_cons (se_gI (by rfl) T.x_MOST_COMPONENTS) sw_nil)))) sss_nil) sss_nil)
    (sss_cons (ss_for lp rfl (si_rng (by rfl) T.f_range (se_biB (k_len K) bi_len (by rfl) T.f_len (by decide +kernel) (sw_cons (se_fld (flds_cons T.cls_Interface T.noat_Interface_exports flds_nil) (se_var (pv 0))) sw_nil))) (sg_name (pg_name (i := 3) sc.nd rfl (Or.inl rfl))) (sss_cons (ss_if (st_not (st_truth (se_meth T.cls_Interface T.meth_Interface_fits h.c_Interface_fits (hRm.mono (by omega)) tk (se_var (pv 0)) (sv_cons (se_var (pv 3)) sv_nil)))) (sss_cons (ss_raise (D := "BadInterface") (fl := "at") rfl T.b_BadInterface hRm tk (se_var (pv 3))) sss_nil) sss_nil) sss_nil)) sss_nil)))
theorem sc_Interface_eqq : FnScope ["self", "other"] ["self", "other"] (defScope s_Interface_eqq) := ⟨rfl, rfl, rfl, by decide +kernel, rfl, by decide +kernel, by decide +kernel⟩
theorem st_Interface_eqq (T : Tx K mg) {j : Nat} (h : Fam w K mg base lim j) : Cal P w K mg base (L2.CX P w) (2 * (j + 1)) (ma K (ga K "Interface") "__eq__") ["self", "other"] (SpF K (IA.run IX.P_k02 lim (j + 1) ("Interface" ++ ".__eq__"))) := by
  obtain ⟨fd, F⟩ := T.c.def_ 1 rfl
  refine Cal.ia (k := 2 * j + 1) F (F.bindsN fun _ _ _ _ _ _ us hl => match us, hl with | [_, _], _ => rfl) sc_Interface_eqq p_Interface_eqq rfl rfl (by decide) (fun cdv A outer s H E hRm tk lp => ?_)
  have sc := sc_Interface_eqq
  have hu64 := hRm.units
  have hu65 := units65 hRm
  exact sss_cons (ss_ret (se_and (se_isiC (iscs_cons T.isc_Interface T.kit_Interface_Interface iscs_nil) (by rfl) T.f_isinstance T.g_Interface (se_var (pv 1))) (se_and (se_cmp (k_eq K hu64) ok_eq (se_fld (flds_cons T.cls_Interface T.noat_Interface_exports flds_nil) (se_var (pv 0))) (se_fld (flds_cons T.cls_Interface T.noat_Interface_exports flds_nil) (se_var (pv 1))) (nomark _)) (se_one (se_cmp (k_eq K hu64) ok_eq (se_fld (flds_cons T.cls_Interface T.noat_Interface_imports flds_nil) (se_var (pv 0))) (se_fld (flds_cons T.cls_Interface T.noat_Interface_imports flds_nil) (se_var (pv 1))) (nomark _)))))) sss_nil
theorem sc_Interface_size : FnScope ["self"] ["self"] (defScope s_Interface_size) := ⟨rfl, rfl, rfl, by decide +kernel, rfl, by decide +kernel, by decide +kernel⟩
theorem st_Interface_size (T : Tx K mg) {j : Nat} (h : Fam w K mg base lim j) : Cal P w K mg base (L2.CX P w) (2 * (j + 1)) (ma K (ga K "Interface") "size") ["self"] (SpF K (IA.run IX.P_k02 lim (j + 1) ("Interface" ++ "." ++ "size"))) := by
  obtain ⟨fd, F⟩ := T.c.def_ 3 rfl
  refine Cal.ia (k := 2 * j + 1) F (F.bindsN fun _ _ _ _ _ _ us hl => match us, hl with | [_], _ => rfl) sc_Interface_size p_Interface_size rfl rfl (by decide) (fun cdv A outer s H E hRm tk lp => ?_)
  have sc := sc_Interface_size
  have hu64 := hRm.units
  have hu65 := units65 hRm
  exact sss_cons (ss_ret (se_biB (k_len K) bi_len (by rfl) T.f_len (by decide +kernel) (sw_cons (se_fld (flds_cons T.cls_Interface T.noat_Interface_exports flds_nil) (se_var (pv 0))) sw_nil))) sss_nil
theorem sc_law_unlike : FnScope ["_law_rows_here", "_law_made", "_law_k", "_law_exported", "_law_imports", "_law_other", "_law_changes", "_law_component", "_law_procedure", "_law_changed"] ["_law_rows_here", "_law_made"] (defScope s_law_unlike) := ⟨rfl, rfl, rfl, by decide +kernel, rfl, by decide +kernel, by decide +kernel⟩
theorem st_law_unlike (T : Tx K mg) {j : Nat} (h : Fam w K mg base lim j) : Cal P w K mg base (L2.CX P w) (2 * (j + 1)) (ga K "_law_unlike") ["_law_rows_here", "_law_made"] (SpF K (IA.run IX.P_k02 lim (j + 1) "_law_unlike")) := by
  obtain ⟨fd, F⟩ := T.c.def_ 14 rfl
  refine Cal.ia (k := 2 * j + 1) F (F.bindsN fun _ _ _ _ _ _ us hl => match us, hl with | [_, _], _ => rfl) sc_law_unlike p_law_unlike rfl rfl (by decide) (fun cdv A outer s H E hRm tk lp => ?_)
  have sc := sc_law_unlike
  have hu64 := hRm.units
  have hu65 := units65 hRm
  exact sss_cons (ss_for lp rfl (si_rng (by rfl) T.f_range (se_biB (k_len K) bi_len (by rfl) T.f_len (by decide +kernel) (sw_cons (se_var (pv 0)) sw_nil))) (sg_name (pg_name (i := 2) sc.nd rfl (Or.inl rfl))) (sss_cons (ss_asg (se_ix (se_var (pv 0)) (se_var (pv 2))) (sg_tup (n := 2) rfl (sgs_cons (sg_name (pg_name (i := 3) sc.nd rfl (Or.inl rfl))) (sgs_cons (sg_name (pg_name (i := 4) sc.nd rfl (Or.inl rfl))) sgs_nil))))
      (sss_cons (ss_if (st_cmp BL.u_lt ok_lt (se_var (pv 3)) se_int (nomark _)) (sss_cons (ss_set (i := 5) sc.nd rfl (Or.inl rfl) (se_mk T.mkr_Interface h.c_Interface_ini hRm tk (by rfl) T.g_Interface (sv_cons (se_bin (k_add K) ok_add (se_bin (k_add K) ok_add (se_sl (se_var (pv 0)) so_none (so_some (se_var (pv 2)))) (se_lst (sv_cons (se_tup (sv_cons (se_bin (k_add K) ok_add (se_var (pv 3)) se_int) (sv_cons (se_var (pv 4)) sv_nil))) sv_nil))) (se_sl (se_var (pv 0)) (so_some (se_bin (k_add K) ok_add (se_var (pv 2)) se_int)) so_none)) sv_nil)))
        (sss_cons (ss_if (st_not (st_truth (se_call h.c_law_same (hRm.mono (by omega)) tk (by rfl) T.g__law_same (sv_cons (se_eqo T.meth_Interface___eq__ h.c_Interface_eqq (hRm.mono (by omega)) (se_var (pv 5)) (se_var (pv 1)) (nomark _)) (sv_cons se_bl sv_nil))))) (sss_cons (ss_ret se_bl) sss_nil) sss_nil) sss_nil)) sss_nil)
      (sss_cons (ss_set (i := 6) sc.nd rfl (Or.inl rfl) (se_lst sv_nil))
      (sss_cons (ss_if (st_cmp BL.u_gt ok_gt (se_biB (k_len K) bi_len (by rfl) T.f_len (by decide +kernel) (sw_cons (se_var (pv 4)) sw_nil)) se_int (nomark _)) (sss_cons (ss_set (i := 6) sc.nd rfl (Or.inl rfl) (se_lst (sv_cons (se_sl (se_var (pv 4)) (so_some se_int) so_none) sv_nil))) sss_nil) sss_nil)
      (sss_cons (ss_if (st_cmp BL.u_gt ok_gt (se_biB (k_len K) bi_len (by rfl) T.f_len (by decide +kernel) (sw_cons (se_var (pv 4)) sw_nil)) se_int (nomark _)) (sss_cons (ss_ex (se_bm PySem.F.plainAttrs_list PySem.F.slot_list_append PySem.F.type_list_append mt_append rk_list mb_append (se_var (pv 6)) (sw_cons (se_bin (k_add K) ok_add (se_sl (se_var (pv 4)) (so_some se_int) so_none) (se_sl (se_var (pv 4)) so_none (so_some se_int))) sw_nil))) sss_nil) sss_nil)
      (sss_cons (ss_for lp rfl (si_rng (by rfl) T.f_range (se_biB (k_len K) bi_len (by rfl) T.f_len (by decide +kernel) (sw_cons (se_var (pv 0)) sw_nil))) (sg_name (pg_name (i := 7) sc.nd rfl (Or.inl rfl))) (sss_cons (ss_for lp rfl (si_rng (by rfl) T.f_range (se_ix (se_ix (se_var (pv 0)) (se_var (pv 7))) se_int)) (sg_name (pg_name (i := 8) sc.nd rfl (Or.inl rfl))) (sss_cons (ss_if (SB.st (sb_and (st_cmp (k_ne K hu64) ok_ne (se_var (pv 7)) (se_var (pv 2)) (nomark _)) (sb_and (st_cmp (k_nin K hu65) ok_nmem (se_tup (sv_cons (se_var (pv 7)) (sv_cons (se_var (pv 8)) sv_nil))) (se_var (pv 4)) (by with_unfolding_all rfl)) (sb_and1 (st_cmp BL.u_gt ok_gt (se_biB (k_len K) bi_len (by rfl) T.f_len (by decide +kernel) (sw_cons (se_var (pv 4)) sw_nil)) se_int (nomark _)))))) (sss_cons (ss_ex (se_bm PySem.F.plainAttrs_list PySem.F.slot_list_append PySem.F.type_list_append mt_append rk_list mb_append (se_var (pv 6)) (sw_cons (se_bin (k_add K) ok_add (se_sl (se_var (pv 4)) (so_some se_int) so_none) (se_lst (sv_cons (se_tup (sv_cons (se_var (pv 7)) (sv_cons (se_var (pv 8)) sv_nil))) sv_nil))) sw_nil))) sss_nil) sss_nil) sss_nil)) sss_nil))
      (sss_cons (ss_for lp rfl (si_seq (se_sl (se_var (pv 6)) so_none (so_some se_int))) (sg_name (pg_name (i := 9) sc.nd rfl (Or.inl rfl))) (sss_cons (ss_if (st_not (st_truth (se_call h.c_law_same (hRm.mono (by omega)) tk (by rfl) T.g__law_same (sv_cons (se_eqo T.meth_Interface___eq__ h.c_Interface_eqq (hRm.mono (by omega)) (se_var (pv 1)) (se_mk T.mkr_Interface h.c_Interface_ini hRm tk (by rfl) T.g_Interface (sv_cons (se_bin (k_add K) ok_add (se_bin (k_add K) ok_add (se_sl (se_var (pv 0)) so_none (so_some (se_var (pv 2)))) (se_lst (sv_cons (se_tup (sv_cons (se_var (pv 3)) (sv_cons (se_var (pv 9)) sv_nil))) sv_nil))) (se_sl (se_var (pv 0)) (so_some (se_bin (k_add K) ok_add (se_var (pv 2)) se_int)) so_none)) sv_nil)) (nomark _)) (sv_cons se_bl sv_nil))))) (sss_cons (ss_ret se_bl) sss_nil) sss_nil) sss_nil)) sss_nil))))))))
    (sss_cons (ss_ret se_bl) sss_nil)
theorem sc_law_same__hot : FnScope ["_law_actual", "_law_due", "_law_k"] ["_law_actual", "_law_due"] (defScope s_law_same) := ⟨rfl, rfl, rfl, by decide +kernel, rfl, by decide +kernel, by decide +kernel⟩
theorem st_law_same__hot (T : Tx K mg) {j : Nat} (h : Fam w K mg base lim j) : CalQ P w K mg base (L2.CX P w) (2 * (j + 1)) (ga K "_law_same") ["_law_actual", "_law_due"] (SpF K (IA.run IX.P_k02 lim (j + 1) "_law_same__hot")) := by
  obtain ⟨fd, F⟩ := T.c.def_ 9 rfl
  refine CalQ.ia (k := 2 * j + 1) F (F.bindsN fun _ _ _ _ _ _ us hl => match us, hl with | [_, _], _ => rfl) sc_law_same__hot p_law_same__hot rfl rfl (by decide) (fun cdv A outer s H E hRm tk => ?_)
  have sc := sc_law_same__hot
  have hu64 := units64Q hRm
  have hu65 := units65Q hRm
  exact sss_cons (ss_if (SB.st (sb_or (st_truth (se_isi (ty := .tuple) (n := "tuple") (by rfl) T.f_isinstance T.f_tuple (se_var (pv 1)))) (sb_or1 (st_truth (se_isi (ty := .list) (n := "list") (by rfl) T.f_isinstance T.f_list (se_var (pv 1))))))) (sss_cons (ss_if (SB.st (sb_or (st_cmp (k_ne K hu64) ok_ne (se_isi (ty := .tuple) (n := "tuple") (by rfl) T.f_isinstance T.f_tuple (se_var (pv 1))) (se_isi (ty := .tuple) (n := "tuple") (by rfl) T.f_isinstance T.f_tuple (se_var (pv 0))) (nomark _)) (sb_or1 (st_cmp (k_ne K hu64) ok_ne (se_isi (ty := .list) (n := "list") (by rfl) T.f_isinstance T.f_list (se_var (pv 1))) (se_isi (ty := .list) (n := "list") (by rfl) T.f_isinstance T.f_list (se_var (pv 0))) (nomark _))))) (sss_cons (ss_ret se_bl) sss_nil) sss_nil)
      (sss_cons (ss_if (st_cmp (k_ne K hu64) ok_ne (se_biB (k_len K) bi_len (by rfl) T.f_len (by decide +kernel) (sw_cons (se_var (pv 0)) sw_nil)) (se_biB (k_len K) bi_len (by rfl) T.f_len (by decide +kernel) (sw_cons (se_var (pv 1)) sw_nil)) (nomark _)) (sss_cons (ss_ret se_bl) sss_nil) sss_nil)
      (sss_cons ss_dead
      (sss_cons (ss_ret se_bl) sss_nil)))) sss_nil)
    (sss_cons (ss_if (SB.st (sb_or (st_isn (se_var (pv 1))) (sb_or1 (st_truth (se_isi (ty := .bool) (n := "bool") (by rfl) T.f_isinstance T.f_bool (se_var (pv 1))))))) (sss_cons (ss_ret (se_and (se_cmp (k_eq K hu64) ok_eq (se_isn (se_var (pv 0))) (se_isn (se_var (pv 1))) (nomark _)) (se_and (se_or (se_isn (se_var (pv 1))) (se_one (se_isi (ty := .bool) (n := "bool") (by rfl) T.f_isinstance T.f_bool (se_var (pv 0))))) (se_one (se_cmp (k_eq K hu64) ok_eq (se_var (pv 0)) (se_var (pv 1)) (nomark _)))))) sss_nil) sss_nil)
    (sss_cons (ss_if (st_truth (se_isi (ty := .int) (n := "int") (by rfl) T.f_isinstance T.f_int (se_var (pv 1)))) (sss_cons (ss_ret (se_and (se_isi (ty := .int) (n := "int") (by rfl) T.f_isinstance T.f_int (se_var (pv 0))) (se_and (se_not (se_isi (ty := .bool) (n := "bool") (by rfl) T.f_isinstance T.f_bool (se_var (pv 0)))) (se_one (se_cmp (k_eq K hu64) ok_eq (se_var (pv 0)) (se_var (pv 1)) (nomark _)))))) sss_nil) sss_nil)
    (sss_cons (ss_ret (se_and (se_isi (ty := .str) (n := "str") (by rfl) T.f_isinstance T.f_str (se_var (pv 0))) (se_one (se_cmp (k_eq K hu64) ok_eq (se_var (pv 0)) (se_var (pv 1)) (nomark _))))) sss_nil)))
theorem sc_law_fits : FnScope ["_law_rows_here", "_law_at", "_law_exported", "_law_imports", "_law_k", "_law_component", "_law_procedure"] ["_law_rows_here", "_law_at"] (defScope s_law_fits) := ⟨rfl, rfl, rfl, by decide +kernel, rfl, by decide +kernel, by decide +kernel⟩
theorem st_law_fits (T : Tx K mg) {j : Nat} (h : Fam w K mg base lim j) : Cal P w K mg base (L2.CX P w) (2 * (j + 1)) (ga K "_law_fits") ["_law_rows_here", "_law_at"] (SpF K (IA.run IX.P_k02 lim (j + 1) "_law_fits")) := by
  obtain ⟨fd, F⟩ := T.c.def_ 11 rfl
  refine Cal.ia (k := 2 * j + 1) F (F.bindsN fun _ _ _ _ _ _ us hl => match us, hl with | [_, _], _ => rfl) sc_law_fits p_law_fits rfl rfl (by decide) (fun cdv A outer s H E hRm tk lp => ?_)
  have sc := sc_law_fits
  have hu64 := hRm.units
  have hu65 := units65 hRm
  exact sss_cons (ss_asg (se_ix (se_var (pv 0)) (se_var (pv 1))) (sg_tup (n := 2) rfl (sgs_cons (sg_name (pg_name (i := 2) sc.nd rfl (Or.inl rfl))) (sgs_cons (sg_name (pg_name (i := 3) sc.nd rfl (Or.inl rfl))) sgs_nil))))
    (sss_cons (ss_if (SB.st (sb_or (st_not (st_ch BL.u_le ok_le BL.u_le ok_le se_int (se_var (pv 2)) se_int)) (sb_or1 (st_cmp BL.u_gt ok_gt (se_biB (k_len K) bi_len (by rfl) T.f_len (by decide +kernel) (sw_cons (se_var (pv 3)) sw_nil)) se_int (nomark _))))) (sss_cons (ss_ret se_bl) sss_nil) sss_nil)
    (sss_cons (ss_for lp rfl (si_rng (by rfl) T.f_range (se_biB (k_len K) bi_len (by rfl) T.f_len (by decide +kernel) (sw_cons (se_var (pv 3)) sw_nil))) (sg_name (pg_name (i := 4) sc.nd rfl (Or.inl rfl))) (sss_cons (ss_asg (se_ix (se_var (pv 3)) (se_var (pv 4))) (sg_tup (n := 2) rfl (sgs_cons (sg_name (pg_name (i := 5) sc.nd rfl (Or.inl rfl))) (sgs_cons (sg_name (pg_name (i := 6) sc.nd rfl (Or.inl rfl))) sgs_nil))))
      (sss_cons (ss_if (SB.st (sb_or (st_cmp (k_eq K hu64) ok_eq (se_var (pv 5)) (se_var (pv 1)) (nomark _)) (sb_or (st_not (st_ch BL.u_le ok_le BL.u_lt ok_lt se_int (se_var (pv 5)) (se_biB (k_len K) bi_len (by rfl) T.f_len (by decide +kernel) (sw_cons (se_var (pv 0)) sw_nil)))) (sb_or1 (st_cmp (k_in K hu65) ok_mem (se_ix (se_var (pv 3)) (se_var (pv 4))) (se_sl (se_var (pv 3)) so_none (so_some (se_var (pv 4)))) (by with_unfolding_all rfl)))))) (sss_cons (ss_ret se_bl) sss_nil) sss_nil)
      (sss_cons (ss_if (st_not (st_ch BL.u_le ok_le BL.u_lt ok_lt se_int (se_var (pv 6)) (se_ix (se_ix (se_var (pv 0)) (se_var (pv 5))) se_int))) (sss_cons (ss_ret se_bl) sss_nil) sss_nil) sss_nil))))
    (sss_cons (ss_ret se_bl) sss_nil)))
theorem sc_law_bad : FnScope ["_law_rows_here", "_law_k"] ["_law_rows_here"] (defScope s_law_bad) := ⟨rfl, rfl, rfl, by decide +kernel, rfl, by decide +kernel, by decide +kernel⟩
theorem st_law_bad (T : Tx K mg) {j : Nat} (h : Fam w K mg base lim j) : Cal P w K mg base (L2.CX P w) (2 * (j + 1)) (ga K "_law_bad") ["_law_rows_here"] (SpF K (IA.run IX.P_k02 lim (j + 1) "_law_bad")) := by
  obtain ⟨fd, F⟩ := T.c.def_ 12 rfl
  refine Cal.ia (k := 2 * j + 1) F (F.bindsN fun _ _ _ _ _ _ us hl => match us, hl with | [_], _ => rfl) sc_law_bad p_law_bad rfl rfl (by decide) (fun cdv A outer s H E hRm tk lp => ?_)
  have sc := sc_law_bad
  have hu64 := hRm.units
  have hu65 := units65 hRm
  exact sss_cons (ss_if (st_cmp BL.u_gt ok_gt (se_biB (k_len K) bi_len (by rfl) T.f_len (by decide +kernel) (sw_cons (se_var (pv 0)) sw_nil)) se_int (nomark _)) (sss_cons (ss_ret se_int) sss_nil) sss_nil)
    (sss_cons (ss_for lp rfl (si_rng (by rfl) T.f_range (se_biB (k_len K) bi_len (by rfl) T.f_len (by decide +kernel) (sw_cons (se_var (pv 0)) sw_nil))) (sg_name (pg_name (i := 1) sc.nd rfl (Or.inl rfl))) (sss_cons (ss_if (st_not (st_truth (se_call h.c_law_fits (hRm.mono (by omega)) tk (by rfl) T.g__law_fits (sv_cons (se_var (pv 0)) (sv_cons (se_var (pv 1)) sv_nil))))) (sss_cons (ss_ret (se_var (pv 1))) sss_nil) sss_nil) sss_nil))
    (sss_cons (ss_if (st_cmp (k_eq K hu64) ok_eq (se_biB (k_len K) bi_len (by rfl) T.f_len (by decide +kernel) (sw_cons (se_var (pv 0)) sw_nil)) se_int (nomark _)) (sss_cons (ss_ret se_int) sss_nil) sss_nil)
    (sss_cons (ss_ret se_non) sss_nil)))
theorem sc_law_draw : FnScope ["_law_pool_here", "_law_size", "_law_cell", "_law_value"] ["_law_pool_here", "_law_size"] (defScope s_law_draw) := ⟨rfl, rfl, rfl, by decide +kernel, rfl, by decide +kernel, by decide +kernel⟩
theorem st_law_draw (T : Tx K mg) {j : Nat} (h : Fam w K mg base lim j) : Cal P w K mg base (L2.CX P w) (2 * (j + 1)) (ga K "_law_draw") ["_law_pool_here", "_law_size"] (SpF K (IA.run IX.P_k02 lim (j + 1) "_law_draw")) := by
  obtain ⟨fd, F⟩ := T.c.def_ 5 rfl
  refine Cal.ia (k := 2 * j + 1) F (F.bindsN fun _ _ _ _ _ _ us hl => match us, hl with | [_, _], _ => rfl) sc_law_draw p_law_draw rfl rfl (by decide) (fun cdv A outer s H E hRm tk lp => ?_)
  have sc := sc_law_draw
  have hu64 := hRm.units
  have hu65 := units65 hRm
  exact sss_cons (ss_if (SB.st (sb_and (st_cmp BL.u_le ok_le (se_ix (se_var (pv 0)) se_int) se_int (nomark _)) (sb_and (st_cmp BL.u_le ok_le (se_ix (se_var (pv 0)) se_int) se_int (nomark _)) (sb_and1 (st_cmp BL.u_lt ok_lt (se_ix (se_var (pv 0)) se_int) (se_biB (k_len K) bi_len (by rfl) T.f_len (by decide +kernel) (sw_cons (se_ix (se_var (pv 0)) se_int) sw_nil)) (nomark _)))))) (sss_cons (ss_set (i := 2) sc.nd rfl (Or.inl rfl) (se_ix (se_ix (se_var (pv 0)) se_int) (se_ix (se_var (pv 0)) se_int)))
      (sss_cons (ss_asg (se_bin (k_add K) ok_add (se_ix (se_var (pv 0)) se_int) se_int) (sg_sub (se_var (pv 0)) se_int))
      (sss_cons (ss_asg (se_bin BL.u_mod ok_mod (se_biT u_intS bi_int (by rfl) T.f_int (by decide +kernel) (sw_cons (se_bin (k_add K) ok_add (se_bin (k_mul K) ok_mul (se_ix (se_var (pv 0)) se_int) se_int) (se_var (pv 2))) sw_nil)) se_int) (sg_sub (se_var (pv 0)) se_int))
      (sss_cons (ss_asg se_int (sg_sub (se_var (pv 0)) se_int))
      (sss_cons (ss_if (st_cmp BL.u_ge ok_ge (se_var (pv 2)) (se_bin BL.u_pow ok_pow se_int se_int) (nomark _)) (sss_cons (ss_asg (se_var (pv 2)) (sg_sub (se_var (pv 0)) se_int)) sss_nil) sss_nil) sss_nil))))) sss_nil)
    (sss_cons (ss_if (st_cmp BL.u_gt ok_gt (se_ix (se_var (pv 0)) se_int) se_int (nomark _)) (sss_cons (ss_set (i := 3) sc.nd rfl (Or.inl rfl) (se_bin BL.u_mod ok_mod (se_biT u_intS bi_int (by rfl) T.f_int (by decide +kernel) (sw_cons (se_ix (se_var (pv 0)) se_int) sw_nil)) (se_var (pv 1))))
      (sss_cons (ss_asg (se_bin BL.u_fdiv ok_fdiv (se_ix (se_var (pv 0)) se_int) (se_var (pv 1))) (sg_sub (se_var (pv 0)) se_int))
      (sss_cons (ss_asg se_int (sg_sub (se_var (pv 0)) se_int))
      (sss_cons (ss_ret (se_var (pv 3))) sss_nil)))) sss_nil)
    (sss_cons (ss_asg (se_bin BL.u_sub ok_sub (se_ix (se_var (pv 0)) se_int) se_int) (sg_sub (se_var (pv 0)) se_int))
    (sss_cons (ss_asg (se_bin BL.u_mod ok_mod (se_biT u_intS bi_int (by rfl) T.f_int (by decide +kernel) (sw_cons (se_bin (k_add K) ok_add (se_bin (k_mul K) ok_mul (se_ix (se_var (pv 0)) se_int) se_int) se_int) sw_nil)) se_int) (sg_sub (se_var (pv 0)) se_int))
    (sss_cons (ss_ret (se_bin BL.u_mod ok_mod (se_bin BL.u_mod ok_mod (se_biT u_intS bi_int (by rfl) T.f_int (by decide +kernel) (sw_cons (se_bin (k_add K) ok_add (se_bin (k_mul K) ok_mul (se_ix (se_var (pv 0)) se_int) se_int) se_int) sw_nil)) se_int) (se_var (pv 1)))) sss_nil))))
theorem sc_law_rows : FnScope ["_law_pool_here", "_law_most", "_law_size", "_law_exports", "_law_k", "_law_rows_here", "_law_imports", "_law_other", "_law_procedure"] ["_law_pool_here", "_law_most"] (defScope s_law_rows) := ⟨rfl, rfl, rfl, by decide +kernel, rfl, by decide +kernel, by decide +kernel⟩
theorem st_law_rows (T : Tx K mg) {j : Nat} (h : Fam w K mg base lim j) : Cal P w K mg base (L2.CX P w) (2 * (j + 1)) (ga K "_law_rows") ["_law_pool_here", "_law_most"] (SpF K (IA.run IX.P_k02 lim (j + 1) "_law_rows")) := by
  obtain ⟨fd, F⟩ := T.c.def_ 10 rfl
  refine Cal.ia (k := 2 * j + 1) F (F.bindsN fun _ _ _ _ _ _ us hl => match us, hl with | [_, _], _ => rfl) sc_law_rows p_law_rows rfl rfl (by decide) (fun cdv A outer s H E hRm tk lp => ?_)
  have sc := sc_law_rows
  have hu64 := hRm.units
  have hu65 := units65 hRm
  exact sss_cons (ss_set (i := 2) sc.nd rfl (Or.inl rfl) (se_bin (k_add K) ok_add se_int (se_call h.c_law_draw (hRm.mono (by omega)) tk (by rfl) T.g__law_draw (sv_cons (se_var (pv 0)) (sv_cons (se_var (pv 1)) sv_nil)))))
    (sss_cons (ss_setLc (i := 3) rfl sc.nd rfl rfl (sw_true rfl rfl rfl (by decide +kernel)) (si_rng (by rfl) T.f_range (se_var (pv 2))) (blkOk_by (own := [("_law_k", 4)]) (N := ["_law_pool_here", "_law_most", "_law_size", "_law_exports", "_law_k", "_law_rows_here", "_law_imports", "_law_other", "_law_procedure"]) (sc := defScope s_law_rows) (by decide +kernel)) (fun _ _ _ _ _ => sg_name (pg_name (i := 4) sc.nd rfl (Or.inl rfl))) (fun _ _ _ _ _ => sps_nil) (fun _ _ _ _ _ => (se_bin (k_add K) ok_add se_int (se_call h.c_law_draw (hRm.mono (by omega)) takes0 (by rfl) T.g__law_draw (sv_cons (se_var (pv 0)) (sv_cons se_int sv_nil))))))
    (sss_cons (ss_set (i := 5) sc.nd rfl (Or.inl rfl) (se_heap (se_lst sv_nil)))
    (sss_cons (ss_for lp rfl (si_rng (by rfl) T.f_range (se_var (pv 2))) (sg_name (pg_name (i := 4) sc.nd rfl (Or.inl rfl))) (sss_cons (ss_set (i := 6) sc.nd rfl (Or.inl rfl) (se_lst sv_nil))
      (sss_cons (ss_for lp rfl (si_rng (by rfl) T.f_range (se_var (pv 2))) (sg_name (pg_name (i := 7) sc.nd rfl (Or.inl rfl))) (sss_cons (ss_for lp rfl (si_rng (by rfl) T.f_range (se_ix (se_var (pv 3)) (se_var (pv 7)))) (sg_name (pg_name (i := 8) sc.nd rfl (Or.inl rfl))) (sss_cons (ss_if (SB.st (sb_and (st_cmp (k_ne K hu64) ok_ne (se_var (pv 7)) (se_var (pv 4)) (nomark _)) (sb_and (st_cmp BL.u_gt ok_gt (se_call h.c_law_draw (hRm.mono (by omega)) tk (by rfl) T.g__law_draw (sv_cons (se_var (pv 0)) (sv_cons se_int sv_nil))) se_int (nomark _)) (sb_and1 (st_cmp BL.u_lt ok_lt (se_biB (k_len K) bi_len (by rfl) T.f_len (by decide +kernel) (sw_cons (se_var (pv 6)) sw_nil)) se_int (nomark _)))))) (sss_cons (ss_ex (se_bm PySem.F.plainAttrs_list PySem.F.slot_list_append PySem.F.type_list_append mt_append rk_list mb_append (se_var (pv 6)) (sw_cons (se_tup (sv_cons (se_var (pv 7)) (sv_cons (se_var (pv 8)) sv_nil))) sw_nil))) sss_nil) sss_nil) sss_nil)) sss_nil))
      (sss_cons (ss_if (st_cmp (k_eq K hu64) ok_eq (se_call h.c_law_draw (hRm.mono (by omega)) tk (by rfl) T.g__law_draw (sv_cons (se_var (pv 0)) (sv_cons se_int sv_nil))) se_int (nomark _)) (sss_cons (ss_set (i := 6) sc.nd rfl (Or.inl rfl) (se_rev (se_var (pv 6)))) sss_nil) sss_nil)
      (sss_cons (ss_ex (se_bm PySem.F.plainAttrs_list PySem.F.slot_list_append PySem.F.type_list_append mt_append rk_list mb_append (se_var (pv 5)) (sw_cons (se_tup (sv_cons (se_ix (se_var (pv 3)) (se_var (pv 4))) (sv_cons (se_var (pv 6)) sv_nil))) sw_nil))) sss_nil)))))
    (sss_cons (ss_ret (se_var (pv 5))) sss_nil))))
theorem sc_law_drawn_rows : FnScope ["_law_pool_here", "_law_rows_here", "_law_way", "_law_place", "_law_exported", "_law_imports", "_law_k"] ["_law_pool_here"] (defScope s_law_drawn_rows) := ⟨rfl, rfl, rfl, by decide +kernel, rfl, by decide +kernel, by decide +kernel⟩
theorem st_law_drawn_rows (T : Tx K mg) {j : Nat} (h : Fam w K mg base lim j) : Cal P w K mg base (L2.CX P w) (2 * (j + 1)) (ga K "_law_drawn_rows") ["_law_pool_here"] (SpF K (IA.run IX.P_k02 lim (j + 1) "_law_drawn_rows")) := by
  obtain ⟨fd, F⟩ := T.c.def_ 13 rfl
  refine Cal.ia (k := 2 * j + 1) F (F.bindsN fun _ _ _ _ _ _ us hl => match us, hl with | [_], _ => rfl) sc_law_drawn_rows p_law_drawn_rows rfl rfl (by decide) (fun cdv A outer s H E hRm tk lp => ?_)
  have sc := sc_law_drawn_rows
  have hu64 := hRm.units
  have hu65 := units65 hRm
  exact sss_cons (ss_set (i := 1) sc.nd rfl (Or.inl rfl) (se_call h.c_law_rows (hRm.mono (by omega)) tk (by rfl) T.g__law_rows (sv_cons (se_var (pv 0)) (sv_cons se_int sv_nil))))
    (sss_cons (ss_set (i := 2) sc.nd rfl (Or.inl rfl) (se_call h.c_law_draw (hRm.mono (by omega)) tk (by rfl) T.g__law_draw (sv_cons (se_var (pv 0)) (sv_cons se_int sv_nil))))
    (sss_cons (ss_set (i := 3) sc.nd rfl (Or.inl rfl) (se_call h.c_law_draw (hRm.mono (by omega)) tk (by rfl) T.g__law_draw (sv_cons (se_var (pv 0)) (sv_cons (se_biB (k_len K) bi_len (by rfl) T.f_len (by decide +kernel) (sw_cons (se_var (pv 1)) sw_nil)) sv_nil))))
    (sss_cons (ss_asg (se_ix (se_var (pv 1)) (se_var (pv 3))) (sg_tup (n := 2) rfl (sgs_cons (sg_name (pg_name (i := 4) sc.nd rfl (Or.inl rfl))) (sgs_cons (sg_name (pg_name (i := 5) sc.nd rfl (Or.inl rfl))) sgs_nil))))
    (sss_cons (ss_if (st_cmp (k_eq K hu64) ok_eq (se_var (pv 2)) se_int (nomark _)) (sss_cons (ss_asg (se_tup (sv_cons (se_call h.c_law_draw (hRm.mono (by omega)) tk (by rfl) T.g__law_draw (sv_cons (se_var (pv 0)) (sv_cons se_int sv_nil))) (sv_cons (se_var (pv 5)) sv_nil))) (sg_sub (se_var (pv 1)) (se_var (pv 3)))) sss_nil) sss_nil)
    (sss_cons (ss_if (SB.st (sb_and (st_cmp (k_eq K hu64) ok_eq (se_var (pv 2)) se_int (nomark _)) (sb_and1 (st_truth (se_var (pv 5)))))) (sss_cons (ss_asg (se_tup (sv_cons (se_var (pv 4)) (sv_cons (se_bin (k_add K) ok_add (se_var (pv 5)) (se_lst (sv_cons (se_ix (se_var (pv 5)) (se_call h.c_law_draw (hRm.mono (by omega)) tk (by rfl) T.g__law_draw (sv_cons (se_var (pv 0)) (sv_cons (se_biB (k_len K) bi_len (by rfl) T.f_len (by decide +kernel) (sw_cons (se_var (pv 5)) sw_nil)) sv_nil)))) sv_nil))) sv_nil))) (sg_sub (se_var (pv 1)) (se_var (pv 3)))) sss_nil) sss_nil)
    (sss_cons (ss_if (st_cmp (k_eq K hu64) ok_eq (se_var (pv 2)) se_int (nomark _)) (sss_cons (ss_asg (se_tup (sv_cons (se_var (pv 4)) (sv_cons (se_bin (k_add K) ok_add (se_var (pv 5)) (se_lst (sv_cons (se_tup (sv_cons (se_bin BL.u_sub ok_sub (se_call h.c_law_draw (hRm.mono (by omega)) tk (by rfl) T.g__law_draw (sv_cons (se_var (pv 0)) (sv_cons se_int sv_nil))) se_int) (sv_cons (se_bin BL.u_sub ok_sub (se_call h.c_law_draw (hRm.mono (by omega)) tk (by rfl) T.g__law_draw (sv_cons (se_var (pv 0)) (sv_cons se_int sv_nil))) se_int) sv_nil))) sv_nil))) sv_nil))) (sg_sub (se_var (pv 1)) (se_var (pv 3)))) sss_nil) sss_nil)
    (sss_cons (ss_if (st_cmp (k_eq K hu64) ok_eq (se_var (pv 2)) se_int (nomark _)) (sss_cons (ss_set (i := 1) sc.nd rfl (Or.inl rfl) (se_heap (se_bin (k_add K) ok_add (se_var (pv 1)) (se_lc rfl sc.nd (si_rng (by rfl) T.f_range (se_call h.c_law_draw (hRm.mono (by omega)) tk (by rfl) T.g__law_draw (sv_cons (se_var (pv 0)) (sv_cons se_int sv_nil)))) (blkOk_by (own := [("_law_k", 6)]) (N := ["_law_pool_here", "_law_rows_here", "_law_way", "_law_place", "_law_exported", "_law_imports", "_law_k"]) (sc := defScope s_law_drawn_rows) (by decide +kernel)) (fun _ _ _ _ _ => sg_name (pg_name (i := 6) sc.nd rfl (Or.inl rfl))) (fun _ _ _ _ _ => sps_nil) (fun _ _ _ _ _ => (se_tup (sv_cons se_int (sv_cons (se_lst sv_nil) sv_nil)))))))) sss_nil) sss_nil)
    (sss_cons (ss_if (st_cmp (k_eq K hu64) ok_eq (se_var (pv 2)) se_int (nomark _)) (sss_cons (ss_set (i := 1) sc.nd rfl (Or.inl rfl) (se_heap (se_sl (se_var (pv 1)) so_none (so_some (se_call h.c_law_draw (hRm.mono (by omega)) tk (by rfl) T.g__law_draw (sv_cons (se_var (pv 0)) (sv_cons se_int sv_nil))))))) sss_nil) sss_nil)
    (sss_cons (ss_if (st_cmp (k_eq K hu64) ok_eq (se_var (pv 2)) se_int (nomark _)) (sss_cons (ss_set (i := 1) sc.nd rfl (Or.inl rfl) (se_heap (se_lst (sv_cons (se_tup (sv_cons se_int (sv_cons (se_lc rfl sc.nd (si_rng (by rfl) T.f_range (se_call h.c_law_draw (hRm.mono (by omega)) tk (by rfl) T.g__law_draw (sv_cons (se_var (pv 0)) (sv_cons se_int sv_nil)))) (blkOk_by (own := [("_law_k", 6)]) (N := ["_law_pool_here", "_law_rows_here", "_law_way", "_law_place", "_law_exported", "_law_imports", "_law_k"]) (sc := defScope s_law_drawn_rows) (by decide +kernel)) (fun _ _ _ _ _ => sg_name (pg_name (i := 6) sc.nd rfl (Or.inl rfl))) (fun _ _ _ _ _ => sps_nil) (fun _ _ _ _ _ => (se_tup (sv_cons se_int (sv_cons (se_var (pv 6)) sv_nil))))) sv_nil))) (sv_cons (se_tup (sv_cons se_int (sv_cons (se_lc rfl sc.nd (si_rng (by rfl) T.f_range (se_call h.c_law_draw (hRm.mono (by omega)) tk (by rfl) T.g__law_draw (sv_cons (se_var (pv 0)) (sv_cons se_int sv_nil)))) (blkOk_by (own := [("_law_k", 6)]) (N := ["_law_pool_here", "_law_rows_here", "_law_way", "_law_place", "_law_exported", "_law_imports", "_law_k"]) (sc := defScope s_law_drawn_rows) (by decide +kernel)) (fun _ _ _ _ _ => sg_name (pg_name (i := 6) sc.nd rfl (Or.inl rfl))) (fun _ _ _ _ _ => sps_nil) (fun _ _ _ _ _ => (se_tup (sv_cons se_int (sv_cons (se_var (pv 6)) sv_nil))))) sv_nil))) sv_nil))))) sss_nil) sss_nil)
    (sss_cons (ss_ret (se_var (pv 1))) sss_nil))))))))))
theorem sc_law_pool : FnScope ["_law_script", "_law_budget"] ["_law_script", "_law_budget"] (defScope s_law_pool) := ⟨rfl, rfl, rfl, by decide +kernel, rfl, by decide +kernel, by decide +kernel⟩
theorem st_law_pool (T : Tx K mg) {j : Nat} (h : Fam w K mg base lim j) : Cal P w K mg base (L2.CX P w) (2 * (j + 1)) (ga K "_law_pool") ["_law_script", "_law_budget"] (SpF K (IA.run IX.P_k02 lim (j + 1) "_law_pool")) := by
  obtain ⟨fd, F⟩ := T.c.def_ 4 rfl
  refine Cal.ia (k := 2 * j + 1) F (F.bindsN fun _ _ _ _ _ _ us hl => match us, hl with | [_, _], _ => rfl) sc_law_pool p_law_pool rfl rfl (by decide) (fun cdv A outer s H E hRm tk lp => ?_)
  have sc := sc_law_pool
  have hu64 := hRm.units
  have hu65 := units65 hRm
  exact sss_cons (ss_ret (se_heap (se_lst (sv_cons (se_biT (k_list K) bi_list (by rfl) T.f_list (by decide +kernel) (sw_cons (se_var (pv 0)) sw_nil)) (sv_cons se_int (sv_cons se_int (sv_cons se_int (sv_cons se_int (sv_cons (se_var (pv 1)) sv_nil))))))))) sss_nil
theorem sc_law : FnScope ["_law_script", "_law_pool_here", "_law_rows_here", "_law_passed", "_law_row", "_law_bad_here", "_law_made", "e", "_law_due"] ["_law_script"] (defScope s_law) := ⟨rfl, rfl, rfl, by decide +kernel, rfl, by decide +kernel, by decide +kernel⟩
theorem law_ok (T : Tx K mg) {j : Nat} (h : Fam w K mg base lim j) {fd : FuncData} (F : FunD K d_law.name d_law.qual d_law.params d_law.body d_law.scope (d_law.dvs K) (d_law.kws K) (fAd K d_law.at_) fd) : FnOk P w K mg base (L2.CX P w) (2 * j + 2) (ga K "law") fd ["_law_script"] (SpF K (IA.run IX.P_k02 lim (j + 1) "law")) := by
  refine Fn.ia (k := 2 * j + 1) F sc_law p_law rfl rfl (by decide) (fun cdv A outer s H E hRm tk lp => ?_)
  have sc := sc_law
  have hu64 := hRm.units
  have hu65 := units65 hRm
  exact sss_cons (ss_set (i := 1) sc.nd rfl (Or.inl rfl) (se_call h.c_law_pool (hRm.mono (by omega)) tk (by rfl) T.g__law_pool (sv_cons (se_var (pv 0)) (sv_cons se_int sv_nil))))
    (sss_cons (ss_set (i := 2) sc.nd rfl (Or.inl rfl) (se_call h.c_law_drawn_rows (hRm.mono (by omega)) tk (by rfl) T.g__law_drawn_rows (sv_cons (se_var (pv 1)) sv_nil)))
    (sss_cons (ss_setLc (i := 3) rfl sc.nd rfl rfl (sw_true rfl rfl rfl (by decide +kernel)) (si_seq (se_var (pv 2))) (blkOk_by (own := [("_law_row", 4)]) (N := ["_law_script", "_law_pool_here", "_law_rows_here", "_law_passed", "_law_row", "_law_bad_here", "_law_made", "e", "_law_due"]) (sc := defScope s_law) (by decide +kernel)) (fun _ _ _ _ _ => sg_name (pg_name (i := 4) sc.nd rfl (Or.inl rfl))) (fun _ _ _ _ _ => sps_nil) (fun _ _ _ _ _ => (se_tup (sv_cons (se_ix (se_var (pv 4)) se_int) (sv_cons (se_biT (k_list K) bi_list (by rfl) T.f_list (by decide +kernel) (sw_cons (se_ix (se_var (pv 4)) se_int) sw_nil)) sv_nil)))))
    (sss_cons (ss_set (i := 5) sc.nd rfl (Or.inl rfl) (se_call h.c_law_bad (hRm.mono (by omega)) tk (by rfl) T.g__law_bad (sv_cons (se_var (pv 2)) sv_nil)))
    (sss_cons (ss_try_as (i := 7) rfl rfl sc.nd rfl rfl ⟨by rfl, by decide +kernel, .inl T.g_BlameError⟩ tk (exms_cons T.ex_BadText_BlameError (exms_cons T.ex_BadInterface_BlameError exms_nil)) (fun W pn xe tk lp => (sss_cons (ss_set (i := 6) sc.nd rfl (Or.inl rfl) (se_mk T.mkr_Interface h.c_Interface_ini hRm tk (by rfl) T.g_Interface (sv_cons (se_var (pv 3)) sv_nil))) sss_nil)) (fun a oe D d pn hD hz hf => have hX := (show Xcs K "at" _ from (xcs_cons T.xc_BadText (xcs_cons T.xc_BadInterface xcs_nil))); (sss_cons (ss_if (SB.st (sb_or (st_truth (se_xisi (hX D hD).1 hz hf ((kits_cons T.kx_BadText_BadText (kits_cons T.kx_BadInterface_BadText kits_nil)) D hD) (by rfl) T.f_isinstance T.g_BadText (pv 7))) (sb_or1 (st_cmp (k_ne K hu64) ok_ne (se_var (pv 3)) (se_var (pv 2)) (nomark _))))) (sss_cons (ss_ret se_bl) sss_nil) sss_nil)
      (sss_cons (ss_ret (se_and (se_isnt (se_var (pv 5))) (se_and (se_xisi (hX D hD).1 hz hf ((kits_cons T.kx_BadText_BadInterface (kits_cons T.kx_BadInterface_BadInterface kits_nil)) D hD) (by rfl) T.f_isinstance T.g_BadInterface (pv 7)) (se_one (se_callQ h.q_law_same__hot ((roomQ hRm).mono (by omega)) takes0 (by rfl) T.g__law_same (sv_cons (se_xat (hX D hD).1 (hX D hD).2 hz hf (pv 7)) (sv_cons (se_var (pv 5)) sv_nil))))))) sss_nil))))
    (sss_cons (ss_if (SB.st (sb_or (st_isnt (se_var (pv 5))) (sb_or (st_cmp (k_ne K hu64) ok_ne (se_var (pv 3)) (se_var (pv 2)) (nomark _)) (sb_or1 (st_not (st_truth (se_call h.c_law_unlike (hRm.mono (by omega)) tk (by rfl) T.g__law_unlike (sv_cons (se_var (pv 2)) (sv_cons (se_var (pv 6)) sv_nil))))))))) (sss_cons (ss_ret se_bl) sss_nil) sss_nil)
    (sss_cons (ss_set (i := 8) sc.nd rfl (Or.inl rfl) (se_lst (sv_cons (se_biT (k_tuple K) bi_tuple (by rfl) T.f_tuple (by decide +kernel) (sw_cons (se_lc rfl sc.nd (si_seq (se_var (pv 2))) (blkOk_by (own := [("_law_row", 4)]) (N := ["_law_script", "_law_pool_here", "_law_rows_here", "_law_passed", "_law_row", "_law_bad_here", "_law_made", "e", "_law_due"]) (sc := defScope s_law) (by decide +kernel)) (fun _ _ _ _ _ => sg_name (pg_name (i := 4) sc.nd rfl (Or.inl rfl))) (fun _ _ _ _ _ => sps_nil) (fun _ _ _ _ _ => (se_ix (se_var (pv 4)) se_int))) sw_nil)) (sv_cons (se_biT (k_tuple K) bi_tuple (by rfl) T.f_tuple (by decide +kernel) (sw_cons (se_lc rfl sc.nd (si_seq (se_var (pv 2))) (blkOk_by (own := [("_law_row", 4)]) (N := ["_law_script", "_law_pool_here", "_law_rows_here", "_law_passed", "_law_row", "_law_bad_here", "_law_made", "e", "_law_due"]) (sc := defScope s_law) (by decide +kernel)) (fun _ _ _ _ _ => sg_name (pg_name (i := 4) sc.nd rfl (Or.inl rfl))) (fun _ _ _ _ _ => sps_nil) (fun _ _ _ _ _ => (se_biT (k_tuple K) bi_tuple (by rfl) T.f_tuple (by decide +kernel) (sw_cons (se_ix (se_var (pv 4)) se_int) sw_nil)))) sw_nil)) sv_nil))))
    (sss_cons (ss_if (SB.st (sb_or (st_not (st_truth (se_call h.c_law_same (hRm.mono (by omega)) tk (by rfl) T.g__law_same (sv_cons (se_lst (sv_cons (se_fld (flds_cons T.cls_Interface T.noat_Interface_exports flds_nil) (se_var (pv 6))) (sv_cons (se_fld (flds_cons T.cls_Interface T.noat_Interface_imports flds_nil) (se_var (pv 6))) sv_nil))) (sv_cons (se_var (pv 8)) sv_nil))))) (sb_or1 (st_not (st_truth (se_call h.c_law_same (hRm.mono (by omega)) tk (by rfl) T.g__law_same (sv_cons (se_meth0 T.cls_Interface T.meth_Interface_size h.c_Interface_size (hRm.mono (by omega)) tk (se_var (pv 6))) (sv_cons (se_biB (k_len K) bi_len (by rfl) T.f_len (by decide +kernel) (sw_cons (se_var (pv 2)) sw_nil)) sv_nil)))))))) (sss_cons (ss_ret se_bl) sss_nil) sss_nil)
    (sss_cons (ss_ret (se_call h.c_law_same (hRm.mono (by omega)) tk (by rfl) T.g__law_same (sv_cons (se_eqo T.meth_Interface___eq__ h.c_Interface_eqq (hRm.mono (by omega)) (se_mk T.mkr_Interface h.c_Interface_ini hRm tk (by rfl) T.g_Interface (sv_cons (se_biT (k_list K) bi_list (by rfl) T.f_list (by decide +kernel) (sw_cons (se_var (pv 2)) sw_nil)) sv_nil)) (se_var (pv 6)) (nomark _)) (sv_cons se_bl sv_nil)))) sss_nil))))))))
theorem fam (T : Tx K mg) : ∀ j, Fam w K mg base lim j
  | 0 => {
      c_law_same := by
        obtain ⟨fd, F⟩ := T.c.def_ 9 rfl
        exact Cal.ia0 F (F.bindsN fun _ _ _ _ _ _ us hl => match us, hl with | [_, _], _ => rfl)
      c_Interface_fits := by
        obtain ⟨fd, F⟩ := T.c.def_ 2 rfl
        exact Cal.ia0 F (F.bindsN fun _ _ _ _ _ _ us hl => match us, hl with | [_, _], _ => rfl)
      c_Interface_ini := by
        obtain ⟨fd, F⟩ := T.c.def_ 0 rfl
        exact Cal.ia0 F (F.bindsN fun _ _ _ _ _ _ us hl => match us, hl with | [_, _], _ => rfl)
      c_Interface_eqq := by
        obtain ⟨fd, F⟩ := T.c.def_ 1 rfl
        exact Cal.ia0 F (F.bindsN fun _ _ _ _ _ _ us hl => match us, hl with | [_, _], _ => rfl)
      c_Interface_size := by
        obtain ⟨fd, F⟩ := T.c.def_ 3 rfl
        exact Cal.ia0 F (F.bindsN fun _ _ _ _ _ _ us hl => match us, hl with | [_], _ => rfl)
      c_law_unlike := by
        obtain ⟨fd, F⟩ := T.c.def_ 14 rfl
        exact Cal.ia0 F (F.bindsN fun _ _ _ _ _ _ us hl => match us, hl with | [_, _], _ => rfl)
      q_law_same__hot := by
        obtain ⟨fd, F⟩ := T.c.def_ 9 rfl
        exact CalQ.ia0 F (F.bindsN fun _ _ _ _ _ _ us hl => match us, hl with | [_, _], _ => rfl)
      c_law_fits := by
        obtain ⟨fd, F⟩ := T.c.def_ 11 rfl
        exact Cal.ia0 F (F.bindsN fun _ _ _ _ _ _ us hl => match us, hl with | [_, _], _ => rfl)
      c_law_bad := by
        obtain ⟨fd, F⟩ := T.c.def_ 12 rfl
        exact Cal.ia0 F (F.bindsN fun _ _ _ _ _ _ us hl => match us, hl with | [_], _ => rfl)
      c_law_draw := by
        obtain ⟨fd, F⟩ := T.c.def_ 5 rfl
        exact Cal.ia0 F (F.bindsN fun _ _ _ _ _ _ us hl => match us, hl with | [_, _], _ => rfl)
      c_law_rows := by
        obtain ⟨fd, F⟩ := T.c.def_ 10 rfl
        exact Cal.ia0 F (F.bindsN fun _ _ _ _ _ _ us hl => match us, hl with | [_, _], _ => rfl)
      c_law_drawn_rows := by
        obtain ⟨fd, F⟩ := T.c.def_ 13 rfl
        exact Cal.ia0 F (F.bindsN fun _ _ _ _ _ _ us hl => match us, hl with | [_], _ => rfl)
      c_law_pool := by
        obtain ⟨fd, F⟩ := T.c.def_ 4 rfl
        exact Cal.ia0 F (F.bindsN fun _ _ _ _ _ _ us hl => match us, hl with | [_, _], _ => rfl)
    }
  | j + 1 => have h := fam T j; {
      c_law_same := st_law_same T h
      c_Interface_fits := st_Interface_fits T h
      c_Interface_ini := st_Interface_ini T h
      c_Interface_eqq := st_Interface_eqq T h
      c_Interface_size := st_Interface_size T h
      c_law_unlike := st_law_unlike T h
      q_law_same__hot := st_law_same__hot T h
      c_law_fits := st_law_fits T h
      c_law_bad := st_law_bad T h
      c_law_draw := st_law_draw T h
      c_law_rows := st_law_rows T h
      c_law_drawn_rows := st_law_drawn_rows T h
      c_law_pool := st_law_pool T h
    }
end
end BX
namespace BX
open PySem PySem.Spec PyProof.Rows L2 He BL
set_option maxRecDepth 100000
def loose0 : List PySem.Str := ["__name__", "BlameError", "BadText", "BadInterface", "MOST_COMPONENTS", "MOST_EXPORTS", "MOST_IMPORTS", "Interface", "_law_pool", "_law_draw", "_law_spend", "_law_few", "_law_number", "_law_same", "_law_rows", "_law_fits", "_law_bad", "_law_drawn_rows", "_law_unlike"]
def loose : List PySem.Str := loose0
abbrev R : PySem.W.OpenRow := PySem.W.OpenLaw.row PySem.Challenge.rw_blameless_k02_interfaces
abbrev hk : PySem.W.Hook := BH.hookX 5 qs fn
def ob (s : PySem.W.SharedT) : He.AlD := BH.obsXG 5 qs fn (HandSHeadRun.getT s)
theorem ob_eq (s : PySem.W.SharedT) : ob s = hk.obs s.abs := BH.obsXG_eq (HandSHeadRun.getT_eq s)
theorem run (w : World) : HandSHeadRun.RunEq R (PySem.W.view R.prog [21]) hk ob 12000 loose w := by
  intro os
  kernel_rfl
theorem walk : PySem.W.WalkO (PySem.W.view R.prog [21]) loose (PySem.W.XL (PySem.W.view R.prog [21]) []) hk.says R.toRowW (HandSHeadRun.topDef R.prog 21) [] fun f vs => PySem.call f vs := by
  refine BH.walk_ofEB (l := PySem.Challenge.rw_blameless_k02_interfaces) (n := 63) (k := 2 * 20 + 2) (x := "_law_script") (CX := fun w => L2.CX P w) rfl (by decide) (by kernel_rfl) ⟨rfl, by decide, by decide⟩ ?F (fun _ _ _ _ _ z => by
    obtain ⟨_, _, _, _, _, _, _, _, _, _, _, _, hE⟩ := z
    exact hE)
  intro w mg fa h Y G hmg0
  obtain ⟨K, KX, c⟩ := Y
  have hmg : mg ("law" : PySem.Str) = some (.ref fa) := by
    have e : (HandSHeadRun.topDef R.prog 21).name = ("law" : PySem.Str) := by kernel_rfl
    rw [← e]
    exact hmg0
  have T : Tx K mg := ⟨⟨h, KX, G⟩, c⟩
  have e2 := hmg.symm.trans T.g_law
  cases e2
  obtain ⟨fd, F⟩ := T.c.def_ 15 (d := d_law) rfl
  have b := FunD.bindsA (ps := ["_law_script"]) F fun _ _ _ _ _ _ us hl => match us, hl with | [_], _ => rfl
  exact ⟨K, fd, IS.SpF K (IA.run IX.P_k02 1000 (20 + 1) "law"), KX, fun s v => b s [v] rfl, fun H a ns hl hb hO hS => IS.spF_law (only_frz hO hS) (IA.law_k02 hl (by decide)), fun base _ _ => law_ok T (fam T 20) F⟩
end BX
open PySem PySem.W PySem.Calls PyProof.Rows
theorem PySem.Challenge.cw_blameless_k02_interfaces_holds : PySem.Challenge.rw_blameless_k02_interfaces.Holds := by
  w_on; o_law
  refine HandSHeadRun.head_any (r := OpenLaw.row PySem.Challenge.rw_blameless_k02_interfaces) (q := view (OpenLaw.row PySem.Challenge.rw_blameless_k02_interfaces).prog [21]) (H := BX.hk) (ob := BX.ob) (M := 12000) (loose := BX.loose) (d := HandSHeadRun.topDef (OpenLaw.row PySem.Challenge.rw_blameless_k02_interfaces).prog 21) (kwd := []) BX.ob_eq
    (by kernel_rfl) (fun s => by kernel_rfl) BX.run (by kernel_rfl) (by kernel_rfl) (by kernel_rfl) (by rfl) (by first | assumption | decide +kernel) (by decide +kernel) ⟨rfl, rfl, rfl, rfl, rfl, by decide +kernel⟩ ?hw ?hc
  case hw => w_witness2
  case hc => exact BX.walk

