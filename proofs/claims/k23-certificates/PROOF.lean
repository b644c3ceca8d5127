import PyProof.Rows.All
import Wide.All
import OpenK.AllK
import Wide.FinOn
import HandS.ForMost
import HandS.Wide
import HandS.DictComp
import HandS.IsInst
import HandS.TupAny
import HandS.NoneIn
import HandS.SortKw
import HandS.Flow
import KE.DataMinMax
import HandS.Walk
import KE.GoesNew
import KE.GoesMore
import HandS.Style
import HandS.More
import HandS.SortInts
import HandS.Exc
import HandS.ExcOwn
import HandS.TryOnly
import HandS.WordsExc
import HandS.IterVal
import PyProof.ListStr
import PySem.Challenge.RW_sayonce_k23_certificates
set_option Elab.async false
set_option linter.all false
set_option maxRecDepth 100000
set_option maxHeartbeats 4000000
namespace Tk
open PySem L2
/-! ## heaps that follow one another -/
/-- H' follows H: tuples and locked things stand, all else stands but for the places m, nothing is let go -/
structure Keep (m : List Addr) (H H' : Hp) : Prop where
  tup : ∀ b xs, H b = some (.tup xs) → H' b = some (.tup xs)
  frz : ∀ b o u, H b = some (.frz o u) → H' b = some (.frz o u)
  oth : ∀ b o, b ∉ m → H b = some o → H' b = some o
  dom : ∀ b, H' b = none → H b = none
theorem Keep.rfl' {m : List Addr} {H : Hp} : Keep m H H := ⟨fun _ _ h => h, fun _ _ _ h => h, fun _ _ _ h => h, fun _ h => h⟩
theorem Keep.trans {m : List Addr} {H H1 H2 : Hp} (a : Keep m H H1) (b : Keep m H1 H2) : Keep m H H2 :=
  ⟨fun c xs h => b.tup c xs (a.tup c xs h), fun c o u h => b.frz c o u (a.frz c o u h), fun c o hc h => b.oth c o hc (a.oth c o hc h), fun c h => a.dom c (b.dom c h)⟩
theorem Keep.wid {m n : List Addr} {H H1 : Hp} (a : Keep m H H1) (h : ∀ b, b ∈ m → b ∈ n) : Keep n H H1 :=
  ⟨a.tup, a.frz, fun c o hc e => a.oth c o (fun z => hc (h c z)) e, a.dom⟩
theorem Keep.wid0 {n : List Addr} {H H1 : Hp} (a : Keep [] H H1) : Keep n H H1 := a.wid fun b hb => absurd hb (by simp)
/-- a place that H did not know may have been written as one likes -/
theorem Keep.cut {m : List Addr} {H H1 : Hp} {p : Addr} (a : Keep (p :: m) H H1) (hp : H p = none) : Keep m H H1 :=
  ⟨a.tup, a.frz, fun c o hc e => a.oth c o (fun z => by
    rcases List.mem_cons.mp z with z | z
    · subst z; rw [hp] at e; cases e
    · exact hc z) e, a.dom⟩
theorem Keep.new {H : Hp} {p : Addr} {o : HO} (h : H p = none) : Keep [] H (upd H p o) :=
  ⟨fun b xs e => by rw [upd_ne (ne_of_none e h)]; exact e, fun b o' u e => by rw [upd_ne (ne_of_none e h)]; exact e, fun b o' _ e => by rw [upd_ne (ne_of_none e h)]; exact e,
   fun b e => by
     by_cases hb : b = p
     · subst hb; rw [upd_same] at e; cases e
     · rw [upd_ne hb] at e; exact e⟩
/-- what is written: no tuple, no locked thing -/
def Wr : HO → Prop
  | .tup _ => False
  | .frz _ _ => False
  | _ => True
theorem Keep.put {H : Hp} {p : Addr} {o o' : HO} (h : H p = some o) (w : Wr o) : Keep [p] H (upd H p o') :=
  ⟨fun b xs e => by rw [upd_ne (fun z => by subst z; rw [h] at e; cases e; exact w)]; exact e, fun b q u e => by rw [upd_ne (fun z => by subst z; rw [h] at e; cases e; exact w)]; exact e,
   fun b q hb e => by rw [upd_ne (fun z => hb (by simp [z]))]; exact e,
   fun b e => by
     by_cases hb : b = p
     · subst hb; rw [upd_same] at e; cases e
     · rw [upd_ne hb] at e; exact e⟩
theorem Keep.same {H H' : Hp} (k : Keep [] H H') : ∀ b o, H b = some o → H' b = some o := fun b o e => k.oth b o (by simp) e
theorem Keep.at {m : List Addr} {H H' : Hp} {a : Addr} {o : HO} (k : Keep m H H') (e : H a = some o) (h : a ∉ m) : H' a = some o := k.oth a o h e
theorem Keep.atT {m : List Addr} {H H' : Hp} {a : Addr} {xs : List V} (k : Keep m H H') (e : H a = some (.tup xs)) : H' a = some (.tup xs) := k.tup a xs e
theorem Keep.sqT {m : List Addr} {K : PySem.W.Frag} {H H' : Hp} {a : Addr} {xs : List V} (k : Keep m H H') (e : SqT K H a xs) : SqT K H' a xs := by
  rcases e with (e | ⟨o, e⟩) | e
  · exact .inl (.inl (k.tup _ _ e))
  · exact .inl (.inr ⟨o, k.frz _ _ _ e⟩)
  · exact .inr e
theorem Keep.sqL {m : List Addr} {K : PySem.W.Frag} {H H' : Hp} {a : Addr} {xs : List V} (k : Keep m H H') (e : SqL K H a xs) (h : a ∉ m) : SqL K H' a xs := by
  rcases e with (e | ⟨o, e⟩) | e
  · exact .inl (.inl (k.oth _ _ h e))
  · exact .inl (.inr ⟨o, k.frz _ _ _ e⟩)
  · exact .inr e
/-! ## lists of things, one by one -/
inductive Al {α β : Type} (R : α → β → Prop) : List α → List β → Prop
  | nil : Al R [] []
  | cons {a : α} {b : β} {as : List α} {bs : List β} : R a b → Al R as bs → Al R (a :: as) (b :: bs)
section
variable {α β : Type} {R S : α → β → Prop}
theorem Al.len {as : List α} {bs : List β} (h : Al R as bs) : as.length = bs.length := by
  induction h with
  | nil => rfl
  | cons _ _ ih => simp [ih]
theorem Al.imp {as : List α} {bs : List β} (h : Al R as bs) (f : ∀ a b, R a b → S a b) : Al S as bs := by
  induction h with
  | nil => exact .nil
  | cons r _ ih => exact .cons (f _ _ r) ih
theorem Al.get {as : List α} {bs : List β} (h : Al R as bs) : ∀ {i : Nat} {a : α}, as[i]? = some a → ∃ b, bs[i]? = some b ∧ R a b := by
  induction h with
  | nil => intro i a e; simp at e
  | cons r _ ih =>
    intro i a e
    cases i with
    | zero => simp at e; subst e; exact ⟨_, rfl, r⟩
    | succ i => simp at e; obtain ⟨b, h1, h2⟩ := ih e; exact ⟨b, by simpa using h1, h2⟩
theorem Al.app {as as' : List α} {bs bs' : List β} (h : Al R as bs) (h' : Al R as' bs') : Al R (as ++ as') (bs ++ bs') := by
  induction h with
  | nil => exact h'
  | cons r _ ih => exact .cons r ih
theorem Al.snoc {as : List α} {bs : List β} {a : α} {b : β} (h : Al R as bs) (r : R a b) : Al R (as ++ [a]) (bs ++ [b]) := h.app (.cons r .nil)
theorem Al.map {γ : Type} {f : γ → α} {g : γ → β} : ∀ {l : List γ}, (∀ c ∈ l, R (f c) (g c)) → Al R (l.map f) (l.map g)
  | [], _ => .nil
  | c :: l, h => .cons (h c (by simp)) (Al.map fun d hd => h d (by simp [hd]))
theorem Al.take {as : List α} {bs : List β} (h : Al R as bs) : ∀ n, Al R (as.take n) (bs.take n) := by
  induction h with
  | nil => intro n; simp; exact .nil
  | cons r _ ih => intro n; cases n with
    | zero => simp; exact .nil
    | succ n => simp; exact .cons r (ih n)
theorem Al.drop {as : List α} {bs : List β} (h : Al R as bs) : ∀ n, Al R (as.drop n) (bs.drop n) := by
  induction h with
  | nil => intro n; simp; exact .nil
  | cons r t ih => intro n; cases n with
    | zero => simp; exact .cons r t
    | succ n => simp; exact ih n
theorem Al.rev {as : List α} {bs : List β} (h : Al R as bs) : Al R as.reverse bs.reverse := by
  induction h with
  | nil => exact .nil
  | cons r _ ih => rw [List.reverse_cons, List.reverse_cons]; exact ih.snoc r
theorem Al.set {as : List α} {bs : List β} (h : Al R as bs) {a : α} {b : β} (r : R a b) : ∀ i, Al R (as.set i a) (bs.set i b) := by
  induction h with
  | nil => intro i; exact .nil
  | cons q t ih => intro i; cases i with
    | zero => exact .cons r t
    | succ i => exact .cons q (ih i)
end
theorem Al.eqm {α β : Type} {f : β → α} : ∀ {as : List α} {bs : List β}, Al (fun a b => a = f b) as bs → as = bs.map f
  | _, _, .nil => rfl
  | _, _, .cons r t => by rw [List.map_cons, ← Al.eqm t, r]
theorem Al.of_map {α β : Type} {f : β → α} (bs : List β) : Al (fun a b => a = f b) (bs.map f) bs := by
  induction bs with
  | nil => exact .nil
  | cons b bs ih => exact .cons rfl ih
theorem sz {n : Nat} (h : n ≤ 16000000) : n ≤ sizeLine := by rw [sizeLine_eq]; omega
theorem sz' {n : Nat} (h : n < 16000000) : n < sizeLine := by rw [sizeLine_eq]; omega
end Tk
namespace Tk
open PySem PySem.Spec PyProof.Rows L2
/-! ## operators by what the values are -/
section
variable {X : Cx}
def uAdd (K : PySem.W.Frag) : R2 := fun x y H Q => rI0 (fun i j => .int (i + j)) x y H Q ∨ (∃ i j, x = .str i ∧ y = .str j ∧ i.length + j.length ≤ sizeLine ∧ Q (.str (i ++ j)) H) ∨ rCat x y H Q ∨ rCatA K x y H Q
theorem o_add : OpR X (binaryOp .Add) (uAdd X.K) := op_add.or (op_add_str.or (op_cat.or op_catA))
def uSub : R2 := rI0 fun i j => .int (i - j)
theorem o_sub : OpR X (binaryOp .Sub) uSub := op_sub
def uMul : R2 := fun x y H Q => rI CMul (fun i j => .int (i * j)) x y H Q ∨ rI CMulW (fun i j => .int (i * j)) x y H Q ∨ rRep x y H Q
theorem o_mul : OpR X (binaryOp .Mult) uMul := op_mul.or (op_mulW.or op_rep)
def uDiv : R2 := fun x y H Q => rI CDiv (fun i j => .int (i / j)) x y H Q ∨ rI CDivW (fun i j => .int (i / j)) x y H Q
theorem o_div : OpR X (binaryOp .FloorDiv) uDiv := op_fdiv.or op_fdivW
def uMod : R2 := rI (fun _ j => 0 < j) fun i j => .int (i % j)
theorem o_mod : OpR X (binaryOp .Mod) uMod := op_mod
def uPow : R2 := rI CPow fun i j => .int (i ^ j.toNat)
theorem o_pow : OpR X (binaryOp .Pow) uPow := op_pow
def uNeg : V → Hp → VK → Prop := rU fun i => .int (-i)
theorem o_neg : UnR X (unaryOp .USub) uNeg := un_neg
def uLt : R2 := rI0 fun i j => .bl (decide (i < j))
theorem o_lt : OpR X (compareOp .Lt) uLt := op_lt
def uLe : R2 := rI0 fun i j => .bl (decide (i ≤ j))
theorem o_le : OpR X (compareOp .LtE) uLe := op_le
def uGt : R2 := rI0 fun i j => .bl (decide (j < i))
theorem o_gt : OpR X (compareOp .Gt) uGt := op_gt
def uGe : R2 := rI0 fun i j => .bl (decide (j ≤ i))
theorem o_ge : OpR X (compareOp .GtE) uGe := op_ge
def uIsN : R2 := fun x y H Q => y = .non ∧ Q (.bl (decide (x = .non))) H
theorem o_isN : OpR X (compareOp .Is) uIsN := op_isN
def uNotN : R2 := fun x y H Q => y = .non ∧ Q (.bl (!decide (x = .non))) H
theorem o_notN : OpR X (compareOp .IsNot) uNotN := op_notN
/-- == of numbers, texts, truth values, None; of data -/
def uEq (K : PySem.W.Frag) : R2 := fun x y H Q => rEq x y H Q ∨ rEqD K x y H Q
theorem o_eq {k : Nat} (hr : Room k X.A) : OpR X (compareOp .Eq) (uEq X.K) := op_eq.or (op_eqD hr.units)
def uNe (K : PySem.W.Frag) : R2 := fun x y H Q => rNe x y H Q ∨ rNeD K x y H Q
theorem o_ne {k : Nat} (hr : Room k X.A) : OpR X (compareOp .NotEq) (uNe X.K) := op_ne.or (op_neD hr.units)
/-- in a dict -/
def rInK : R2 := fun y x H Q => ∃ a o, x = .ref a ∧ DGet H a y o ∧ Q (.bl o.isSome) H
theorem op_inK (hu : X.A.units + 1 < cLine) : OpR X (compareOp .In) rInK := by
  intro pn st σ0 H0 y x iv u Qq I ry rx ⟨a, ov, ex, g, q2⟩
  subst ex
  cases rx
  exact d_in hu I g ry fun s3 I3 => ⟨.bl ov.isSome, H0, I3, rfl, q2⟩
def rNotInK : R2 := fun y x H Q => ∃ a o, x = .ref a ∧ DGet H a y o ∧ Q (.bl (!o.isSome)) H
theorem op_notInK (hu : X.A.units + 1 < cLine) : OpR X (compareOp .NotIn) rNotInK := by
  intro pn st σ0 H0 y x iv u Qq I ry rx ⟨a, ov, ex, g, q2⟩
  subst ex
  cases rx
  exact d_notIn hu I g ry fun s3 I3 => ⟨.bl (!ov.isSome), H0, I3, rfl, q2⟩
def rInSg : R2 := fun x y H Q => ∃ (c : Nat) (z : Str), x = .str ⟨#[c]⟩ ∧ y = .str z ∧ Q (.bl (decide (c ∈ z.cps.toList))) H
def uIn (K : PySem.W.Frag) : R2 := fun x y H Q => rIn K false x y H Q ∨ rInK x y H Q ∨ rInSg x y H Q
theorem o_in {k : Nat} (hr : Room k X.A) : OpR X (compareOp .In) (uIn X.K) := op_in_seq.or ((op_inK (hu_of hr)).or op_in_sign)
def rNotInSg : R2 := fun x y H Q => ∃ (c : Nat) (z : Str), x = .str ⟨#[c]⟩ ∧ y = .str z ∧ Q (.bl (!decide (c ∈ z.cps.toList))) H
def uNotIn (K : PySem.W.Frag) : R2 := fun x y H Q => rIn K true x y H Q ∨ rNotInK x y H Q ∨ rNotInSg x y H Q
theorem o_notIn {k : Nat} (hr : Room k X.A) : OpR X (compareOp .NotIn) (uNotIn X.K) := op_notIn_seq.or ((op_notInK (hu_of hr)).or op_notIn_sign)
/-! ## subscripts -/
def rIxK : R2 := fun x y H Q => ∃ a v, x = .ref a ∧ DGet H a y (some v) ∧ Q v H
theorem ix_dictK (hu : X.A.units + 1 < cLine) : IxR X rIxK := by
  intro vE sE pn st σ0 H0 x y v u Qq I rx ry ⟨a, w, ex, g, q2⟩ hs
  subst ex
  cases rx
  exact tail_any (dict_typeIs I g) PySem.F.slot_dict_getitem.lookup (d_getItem hu I g ry fun w' s3 I3 rw' => ⟨w, H0, I3, rw', q2⟩) hs
def uIx (K : PySem.W.Frag) : R2 := fun x y H Q => rIx K x y H Q ∨ rIxK x y H Q
theorem o_ix {k : Nat} (hr : Room k X.A) : IxR X (uIx X.K) := ix_seq.or (ix_dictK (hu_of hr))
def uSl (K : PySem.W.Frag) : V → Option Int → Option Int → Hp → VK → Prop := fun x lo hi H Q => rSlL K x lo hi H Q ∨ rSlA K x lo hi H Q ∨ rSlS x lo hi H Q
theorem o_sl : SlR X (uSl X.K) := sl_list.or (sl_tupA.or sl_str)
/-! ## built-ins -/
def uLen (K : PySem.W.Frag) : List V → Hp → VK → Prop := fun xs H Q => (∃ x n, xs = [x] ∧ LenV K x H n ∧ Q (.int n) H) ∨ ∃ a kvs, xs = [V.ref a] ∧ H a = some (.dK kvs) ∧ Q (.int kvs.length) H
theorem c_len : CallR X (.builtin "len") (uLen X.K) := call_len.or call_lenD
def uInt : List V → Hp → VK → Prop := fun xs H Q => ((∃ i, xs = [.int i] ∧ Q (.int i) H) ∨ ∃ k, xs = [.bl k] ∧ Q (.int (if k then 1 else 0)) H) ∨ ∃ a n, xs = [.str a] ∧ PySem.intText? a = some n ∧ a.length ≤ 640 ∧ Q (.int n) H
theorem c_int : CallR X (.type "int") uInt := call_int1.or call_int_str
def uTup (K : PySem.W.Frag) : List V → Hp → VK → Prop := fun xs H Q => ∃ p ys, xs = [.ref p] ∧ ((SqL K H p ys ∧ ∀ l, H l = none → Q (.ref l) (upd H l (.tup ys))) ∨ (SqT K H p ys ∧ Q (.ref p) H))
theorem c_tup : CallR X (.type "tuple") (uTup X.K) := call_tuple_of
def uLst (K : PySem.W.Frag) : List V → Hp → VK → Prop := fun xs H Q => ∃ p ys, xs = [.ref p] ∧ (SqL K H p ys ∨ SqT K H p ys) ∧ ∀ l, H l = none → Q (.ref l) (upd H l (.lst ys))
theorem c_lst : CallR X (.type "list") (uLst X.K) := call_list_of
def rMin2 : List V → Hp → VK → Prop := fun xs H Q => ∃ i j, xs = [.int i, .int j] ∧ Q (.int (if j < i then j else i)) H
def rMaxB : List V → Hp → VK → Prop := fun xs H Q => ∃ i j, xs = [.int i, .int j] ∧ Q (.int (if j > i then j else i)) H
def uMin (K : PySem.W.Frag) : List V → Hp → VK → Prop := fun xs H Q => rMin2 xs H Q ∨ rMin K xs H Q
theorem c_min (hc : X.calm = true) : CallR X (.builtin "min") (uMin X.K) := (call_min2 hc).or (cr_min hc)
def uMax (K : PySem.W.Frag) : List V → Hp → VK → Prop := fun xs H Q => rMaxB xs H Q ∨ rMax K xs H Q
theorem c_max (hc : X.calm = true) : CallR X (.builtin "max") (uMax X.K) := (call_max2 hc).or (cr_max hc)
end
section
variable {X : Cx}
theorem reads_ints {h : Heap} : ∀ {ns : List Int} {us : List Value}, Vals (ns.map V.int) us → ReadsAll h us (ns.map PyData.int) (us.flatMap fun _ => [])
  | [], _, .nil => .nil
  | n :: ns, _, .cons r t => by
    obtain ⟨tk, rfl⟩ := r
    exact ReadsAll.cons (Reads.int n tk) (reads_ints t)
theorem depth_ints : ∀ ns : List Int, PyData.depthAll (ns.map PyData.int) ≤ 1
  | [] => by simp [PyData.depthAll]
  | n :: ns => by
    have := depth_ints ns
    simp only [List.map_cons, PyData.depthAll, PyData.depth]
    omega
end
end Tk
namespace PySem
open AutoSeq1 (wpAny_loadPart')
/-! ## enumerate over a tuple -/
theorem tk_enumT_new (a : Addr) (vals : Array Value) :
    Meets (Builtin.«enumerate.__new__» ⟨[.type "enumerate", .ref a], []⟩) (fun _ R s0 => s0.heap.IsTuple a vals ∧
      R (.ok (.ret (.ref (s0.heap.push { cls := .type "tuple_iterator", data := .fields #[.ref a, .int 0 0] }).objs.size)))
        { s0 with heap := (s0.heap.push { cls := .type "tuple_iterator", data := .fields #[.ref a, .int 0 0] }).push { cls := .type "enumerate", data := .fields #[.none, .bool false, .ref s0.heap.objs.size, rawInt 0, .none, .none] } }) :=
  .of_wp fun prog w A R s0 hh => by
    obtain ⟨hp, g, d, tk, os⟩ := s0
    obtain ⟨hl, hR⟩ := hh
    have hsub := sub_enumerate
    have q1 : ∀ {A' : Around} {E : Value → Shared → Prop} {Q : Value → Shared → Prop}, Q (.ref hp.objs.size) ⟨hp.push { cls := .type "tuple_iterator", data := .fields #[.ref a, .int 0 0] }, g, d, tk, os⟩ → wpAny (model prog w) A' (pyIter (.ref a)) Q E ⟨hp, g, d, tk, os⟩ :=
      fun q => wpAny_pyIter_tuple hl q
    wp_walk using q1
    refine wpAny_stack_any fun st => wpAny_pure ?_
    split
    · rename_i c _ _ _ _ _
      cases (c == Value.type "enumerate")
      · wp_walk using q1
        exact ⟨_, rfl, hR⟩
      · wp_walk using q1
        exact ⟨_, rfl, hR⟩
    · wp_walk using q1
      exact ⟨_, rfl, hR⟩
theorem tk_enumT {prog : Program} {w : World} {A : Around} {E : Value → Shared → Prop} {s0 : Shared} {a : Addr} {vals : Array Value} {Q : Value → Shared → Prop} (hT : s0.heap.IsTuple a vals)
    (hQ : ∀ h', IsEnum h' (s0.heap.objs.size + 1) s0.heap.objs.size 0 .none → h'.IsTupleIter s0.heap.objs.size a 0 → h'.objs.size = s0.heap.objs.size + 2 →
      (∀ b o, s0.heap.get? b = some o → h'.get? b = some o) → Q (.ref (s0.heap.objs.size + 1)) { s0 with heap := h' }) :
    wpAny (model prog w) A (call (.type "enumerate") [.ref a]) Q E s0 := by
  refine callType_new F.called_enumerate (by decide) (F.typeCall_enumerate_1 _) (F.newCall_enumerate_1 _) (fun obj => F.args_object_init_2 obj _) F.entry_enumerate_new (tk_enumT_new a vals) ⟨hT, ?_⟩
  have hz : (s0.heap.push { cls := .type "tuple_iterator", data := .fields #[.ref a, .int 0 0] }).objs.size = s0.heap.objs.size + 1 := Heap.size_push ..
  show _ ∧ _
  rw [hz]
  have he : IsEnum ((s0.heap.push { cls := .type "tuple_iterator", data := .fields #[.ref a, .int 0 0] }).push
      { cls := .type "enumerate", data := .fields #[.none, .bool false, .ref s0.heap.objs.size, rawInt 0, .none, .none] }) (s0.heap.objs.size + 1) s0.heap.objs.size 0 .none := by
    have z := Heap.get?_push_size (s0.heap.push { cls := .type "tuple_iterator", data := .fields #[.ref a, .int 0 0] })
      (o := { cls := .type "enumerate", data := .fields #[.none, .bool false, .ref s0.heap.objs.size, rawInt 0, .none, .none] }) rfl
    rw [hz] at z; exact z
  exact ⟨⟨_, he, rfl⟩, hQ _ he ⟨_, Heap.get?_push_of_some _ (Heap.get?_push_size _ rfl), rfl, rfl⟩ (by rw [Heap.size_push, hz]) fun b o x => Heap.get?_push_of_some _ (Heap.get?_push_of_some _ x)⟩
end PySem
namespace Tk
open PySem PySem.Spec PyProof.Rows L2
/-- the tuple at a, each item in a new pair -/
def Ieu (K : PySem.W.Frag) (a : Addr) : It :=
  ⟨fun i H => ∃ (xs : List V) (x : V), SqT K H a xs ∧ xs[i]? = some x, fun i H v H' => ∃ T x, v = .ref T ∧ H T = none ∧ H' = upd H T (.tup [.int (i : Nat), x]) ∧ ∀ xs, SqT K H a xs → xs[i]? = some x, fun i H => ∃ xs : List V, SqT K H a xs ∧ xs.length = i⟩
theorem turn_eu {P : Program} {w : World} {K : PySem.W.Frag} {elts : List Expr} {kk : Nat} {tpos : Pos} (a e it : Addr) (hae : a ≠ it) (hae2 : e ≠ a) :
    Turn P w K (.Tuple elts kk tpos) (Ieu K a) [e, it] e (fun i h => (∃ old, IsEnum h e it ((i : Nat) : Int) old) ∧ h.IsTupleIter it a i ∧ e ≠ it) where
  mem := by simp
  obj := fun i h st b hb => by
    obtain ⟨⟨old, he⟩, ⟨o, ho, hc, hd⟩, _⟩ := st
    have zz : b = e ∨ b = it := by simpa using hb
    rcases zz with z | z
    · rw [z]; exact ⟨_, he, fun v q => nomatch q⟩
    · rw [z]; exact ⟨o, ho, fun v q => by rw [hd] at q; cases q⟩
  keep := fun i h h' st k => by
    obtain ⟨⟨old, he⟩, hi, hne⟩ := st
    exact ⟨⟨old, k e (by simp) _ he⟩, hi.at fun o q => k it (by simp) o q, hne⟩
  item := by
    intro X hP hw hK hc i pn st0 σ0 H0 E0 I hf st hg
    subst hP hw hK
    obtain ⟨⟨old, he⟩, hit, hne⟩ := st
    obtain ⟨xs, x, hq, hx⟩ := hg
    obtain ⟨its, rv, p, hz⟩ := I.tuple hq
    obtain ⟨u, hu, ru⟩ := rv.get hx
    have il : i < its.toArray.size := by simpa using (List.getElem?_eq_some_iff.mp hu).1
    have D := Draws.tuple (prog := X.prog) (w := X.w) (A := X.A.in1) (I.ok.hd hc) it a hae its.toArray
    have G := GoesN.enumFrom (elts := elts) (x1 := kk) (pos := tpos) 0 D e hne (by simp [hne, hae2]) (by simp)
    have S0 : (∃ old, IsEnum st0.heap e it ((0 : Int) + (i : Int)) old) ∧ st0.heap.IsTupleIter it a i ∧ st0.heap.IsTuple a its.toArray := ⟨⟨old, by rw [Int.zero_add]; exact he⟩, hit, p⟩
    refine G.goes i st0 _ E0 il S0 fun v h' tk ⟨T, t, x', ev, hT, hx', ht⟩ S1 hk htk => ?_
    subst ev
    have ex : x' = u := by
      have q : its[i]? = some x' := by simpa using hx'
      rw [hu] at q
      exact (Option.some.inj q).symm
    subst ex
    have new : ObjOk X.prog X.w (upd H0 T (.tup [.int (i : Nat), x])) h' T (.tup [.int (i : Nat), x]) := by
      refine ⟨by show 2 ≤ sizeLine; decide, [.int (0 + (i : Int)) t, x'], .cons ⟨_, by rw [Int.zero_add]⟩ (.cons ru .nil), ?_⟩
      exact ht
    have I1 : Inv X pn σ0 (upd H0 T (.tup [.int (i : Nat), x])) { st0 with heap := h', toks := tk } := I.turnedNew (ch := [e, it]) (fun b ob hb q => hk b ob hb q) hf hT new
    refine ⟨.ref T, _, I1, rfl, ⟨T, x, rfl, I.hok.fresh hT, rfl, fun ys hy => by rw [I.tuple_inj hy hq]; exact hx⟩, ⟨?_, S1.2.1, hne⟩, fun b hb => ?_⟩
    · obtain ⟨old', q⟩ := S1.1
      refine ⟨old', ?_⟩
      have e1 : (0 : Int) + ((i + 1 : Nat) : Int) = ((i + 1 : Nat) : Int) := Int.zero_add _
      rw [e1] at q
      exact q
    · have hb' : b < st0.heap.objs.size := by
        have zz : b = e ∨ b = it := by simpa using hb
        rcases zz with z | z
        · rw [z]; exact Heap.lt_size he
        · rw [z]; obtain ⟨_, q, _⟩ := hit; exact Heap.lt_size q
      rw [upd_ne (Nat.ne_of_lt (Nat.lt_of_lt_of_le hb' hT))]
      exact (hf b hb).1
  done := by
    intro X hP hw hK hc i pn st0 σ0 H0 E0 I hf st hg
    subst hP hw hK
    obtain ⟨⟨old, he⟩, hit, hne⟩ := st
    obtain ⟨xs, hq, hx⟩ := hg
    obtain ⟨its, rv, p, hz⟩ := I.tuple hq
    have hl := rv.length
    have D := Draws.tuple (prog := X.prog) (w := X.w) (A := X.A.in1) (I.ok.hd hc) it a hae its.toArray
    have G := GoesN.enumFrom (elts := elts) (x1 := kk) (pos := tpos) 0 D e hne (by simp [hne, hae2]) (by simp)
    have il : its.toArray.size = i := by rw [List.size_toArray, ← hl]; exact hx
    rw [← il] at he hit
    exact G.stops st0 _ E0 ⟨⟨old, by rw [Int.zero_add]; exact he⟩, hit, p⟩ fun h' tk hk _ => Inv.turnedL (ch := [e, it]) I (fun b o hb q => hk b o hb q) hf
  self := fun A i s0 Q E st h => let ⟨⟨_, he⟩, _⟩ := st; wpAny_pyIter_enum he h
/-- for i, x in enumerate(a list or a tuple) -/
def iEn (K : PySem.W.Frag) (ta : TA) : TI := fun σ H R => ta σ H fun vs H1 => ∃ a, vs = [.ref a] ∧ (((∃ xs, SqL K H1 a xs) ∧ R (Ite K a) H1) ∨ ((∃ xs, SqT K H1 a xs) ∧ R (Ieu K a) H1))
theorem pi_en {X : Cx} {e : Expr} {ta : TA} {p0 pos0 tpos : Pos} {elts : List Expr} {kk : Nat} (hg : Gl X "enumerate") (hm : X.mg "enumerate" = none) (ha : PA X [e] ta) (hs : starEach [e] X.env = [(false, eval e X.env)] := by rfl) :
    PI X (.Tuple elts kk tpos) (.Call (.Name "enumerate" p0) [e] [] pos0) (iEn X.K ta) := by
  refine ⟨fun pn s0 σ0 H0 R0 J h => ?_⟩
  refine Call_ (ld_blt J hg hm boot_enumerate (PyProof.Rows.callWith_type1 (thn (ha.run pos0 pn s0 σ0 H0 _ J h) fun us s2 ⟨vs, H2, J2, r2, a, ev, q2⟩ => ?_) hs rfl))
  subst ev
  cases r2 with
  | cons r rr =>
    cases rr
    cases r
    rcases q2 with ⟨⟨xs, hq⟩, q⟩ | ⟨⟨xs, hq⟩, q⟩
    · obtain ⟨its, rv, pl, hz⟩ := J2.list hq
      refine call_enumerate_list pl.isList fun h' he hit hsz hk => wpAny_pyIter_enum he ?_
      have J3 : Inv X pn σ0 H2 { s2 with heap := h' } := J2.kept (t' := s2.toks) hk
      refine ⟨s2.heap.objs.size + 1, [s2.heap.objs.size + 1, s2.heap.objs.size], _, _, H2, rfl, J3, turn_enum a (s2.heap.objs.size + 1) s2.heap.objs.size, ⟨⟨.none, he⟩, hit, Nat.succ_ne_self _⟩, fun b hb => ?_, q⟩
      have hle : s2.heap.objs.size ≤ b := by
        have zz : b = s2.heap.objs.size + 1 ∨ b = s2.heap.objs.size := by simpa using hb
        rcases zz with z | z
        · rw [z]; exact Nat.le_add_right _ _
        · rw [z]; exact Nat.le_refl _
      exact J2.fpOk hle (J2.hok.fresh hle)
    · obtain ⟨its, rv, pl, hz⟩ := J2.tuple hq
      have al : a < s2.heap.objs.size := by obtain ⟨o, e1, _⟩ := pl; exact Heap.lt_size e1
      refine tk_enumT (show s2.heap.IsTuple a its.toArray from pl) fun h' he hit hsz hk => wpAny_pyIter_enum he ?_
      have J3 : Inv X pn σ0 H2 { s2 with heap := h' } := J2.kept (t' := s2.toks) hk
      refine ⟨s2.heap.objs.size + 1, [s2.heap.objs.size + 1, s2.heap.objs.size], _, _, H2, rfl, J3, turn_eu a (s2.heap.objs.size + 1) s2.heap.objs.size (Nat.ne_of_lt al) (Nat.ne_of_gt (Nat.lt_succ_of_lt al)), ⟨⟨.none, he⟩, hit, Nat.succ_ne_self _⟩, fun b hb => ?_, q⟩
      have hle : s2.heap.objs.size ≤ b := by
        have zz : b = s2.heap.objs.size + 1 ∨ b = s2.heap.objs.size := by simpa using hb
        rcases zz with z | z
        · rw [z]; exact Nat.le_add_right _ _
        · rw [z]; exact Nat.le_refl _
      exact J2.fpOk hle (J2.hok.fresh hle)
theorem walk_eu {K : PySem.W.Frag} {a : Addr} {xs : List V} : Walk (Ieu K a) xs.length (fun H => SqT K H a xs) (YPair (fun i => some (.int (i : Nat))) (fun i => xs[i]?)) := by
  refine ⟨fun i _ hi q => ⟨xs, xs[i], q, by simp [hi]⟩, fun _ q => ⟨xs, q, rfl⟩, fun i H v H' _ q y => ?_⟩
  obtain ⟨T, x, h1, h2, h3, h4⟩ := y
  exact ⟨T, .int (i : Nat), x, h1, h2, h3, rfl, h4 xs q⟩
/-! ## for x in a list or a tuple -/
def iSq (K : PySem.W.Frag) (tl : TE) : TI := fun σ H R => tl σ H fun x H1 => ∃ a, x = .ref a ∧ (((∃ xs, SqL K H1 a xs) ∧ R (Itl K a) H1) ∨ ((∃ xs, SqT K H1 a xs) ∧ R (Itt K a) H1))
theorem pi_sq {X : Cx} {tg l : Expr} {tl : TE} (hl : PE X l tl) : PI X tg l (iSq X.K tl) := by
  refine ⟨fun pn s0 σ0 H0 R0 J h => ?_⟩
  refine thn (hl.run pn s0 σ0 H0 _ J h) fun v s2 ⟨x, H2, J2, r2, a, ex, q2⟩ => ?_
  subst ex
  cases r2
  rcases q2 with ⟨⟨xs, hq⟩, q⟩ | ⟨⟨xs, hq⟩, q⟩
  · obtain ⟨its, rv, pl, hz⟩ := J2.list hq
    refine wpAny_pyIter_list pl.isList ?_
    refine ⟨s2.heap.objs.size, [s2.heap.objs.size], _, _, H2, rfl, J2.kept (t' := s2.toks) fun b o e => Heap.get?_push_of_some _ e, turn_list a _, ⟨_, Heap.get?_push_size _ rfl, rfl, rfl⟩, fun b hb => ?_, q⟩
    have zz : b = s2.heap.objs.size := by simpa using hb
    subst zz
    exact J2.fpOk (Nat.le_refl _) (J2.hok.fresh (Nat.le_refl _))
  · obtain ⟨its, rv, pl, hz⟩ := J2.tuple hq
    refine wpAny_pyIter_tuple (show s2.heap.IsTuple a its.toArray from pl) ?_
    refine ⟨s2.heap.objs.size, [s2.heap.objs.size], _, _, H2, rfl, J2.kept (t' := s2.toks) fun b o e => Heap.get?_push_of_some _ e, turn_tuple a _, ⟨_, Heap.get?_push_size _ rfl, rfl, rfl⟩, fun b hb => ?_, q⟩
    have zz : b = s2.heap.objs.size := by simpa using hb
    subst zz
    exact J2.fpOk (Nat.le_refl _) (J2.hok.fresh (Nat.le_refl _))
/-! ## a, b, .. = a list or a tuple -/
def gUn (K : PySem.W.Frag) (n : Nat) (t : TGs) : TG := fun v σ H Q => ∃ a xs, v = .ref a ∧ (SqT K H a xs ∨ SqL K H a xs) ∧ xs.length = n ∧ t xs σ H Q
theorem pg_un {X : Cx} {es : List Expr} {k : Nat} {t : TGs} {n : Nat} {pos0 : Pos} (hc : X.calm = true) (h : PGs X es t)
    (hn : (assignEach es X.env).length = n := by rfl) (hst : (assignEach es X.env).findIdx? (·.1) = none := by rfl) : PG X (.Tuple es k pos0) (gUn X.K n t) := by
  refine ⟨fun pn s0 σ0 H0 v u Q0 J r hw => ?_⟩
  obtain ⟨a, xs, e1, hq, hl, hw⟩ := hw
  rcases hq with hq | hq
  · exact (pg_tup (n := n) hc h hn hst).run pn s0 σ0 H0 v u Q0 J r ⟨a, xs, e1, hq, hl, hw⟩
  · exact (pg_unl (n := n) hc h hn hst).run pn s0 σ0 H0 v u Q0 J r ⟨a, xs, e1, hq, hl, hw⟩
/-! ## o[i] = v, o a list or a dict -/
def uSet : TSet := fun o i v H Q => rSetL o i v H Q ∨ ∃ a H', o = .ref a ∧ DPut H a i v H' ∧ Q H'
theorem o_set {X : Cx} {k : Nat} (hr : Room k X.A) : PSet X uSet := by
  intro pn s0 σ0 H0 o i v ov iv u Q0 J ro ri rv h
  rcases h with h | ⟨a, H', eo, g, q⟩
  · exact set_list pn s0 σ0 H0 o i v ov iv u Q0 J ro ri rv h
  · subst eo
    cases ro
    exact d_setItem (hu_of hr) J g ri rv fun s3 J3 => ⟨H', J3, q⟩
/-! ## max(xs, default = d), min(xs, default = d), xs ints -/
theorem alike_ints (ns : List Int) : PySem.W.AlikeAll (ns.map PyData.int) := by
  refine ⟨fun x hx y hy => ?_, fun x hx => ?_⟩
  · obtain ⟨i, _, rfl⟩ := List.mem_map.mp hx
    obtain ⟨j, _, rfl⟩ := List.mem_map.mp hy
    rfl
  · obtain ⟨i, _, rfl⟩ := List.mem_map.mp hx
    exact fun z => nomatch z
def rMaxD (K : PySem.W.Frag) (f : Int → List Int → Int) : List V → List V → Hp → VK → Prop := fun vs zs H Q => ∃ (a : Addr) (ns : List Int) (d : V), vs = [V.ref a] ∧ zs = [d] ∧ SqL K H a (ns.map V.int) ∧
  Q (match ns with | [] => d | n :: r => .int (f n r)) H
theorem c_maxD {X : Cx} {k : Nat} (hr : Room k X.A) : CallRK X (.builtin "max") [Str.ofString "default"] (rMaxD X.K fun n r => r.foldl max n) := by
  intro pn s0 σ0 H0 vs zs us ws Q0 J r rz h
  obtain ⟨a, ns, d, rfl, rfl, hs, q⟩ := h
  obtain ⟨its, rv, pl, hz⟩ := J.list hs
  obtain ⟨u, rfl, ru⟩ := vals1 r
  cases ru
  obtain ⟨dv, rfl, rd⟩ := vals1 rz
  have hu := hr.units
  refine PySem.W.max_list_default hr.hd pl.isList (reads_ints rv) (alike_ints ns) (by have := depth_ints ns; omega) (fun e0 h' tk hk => ?_) fun y ys i v h' tk bs e1 hv rd' hk => ?_
  · have e2 : ns = [] := by simpa using e0
    subst e2
    exact ⟨d, H0, J.kept hk, rd, q⟩
  · cases ns with
    | nil => cases e1
    | cons n r' =>
      have e3 : PyData.int n = y ∧ r'.map PyData.int = ys := by
        rw [List.map_cons] at e1
        exact List.cons.inj e1
      obtain ⟨e4, e5⟩ := e3
      subst e4 e5
      rw [PySem.W.maxD_ints] at rd'
      cases rd' with
      | int _ t => exact ⟨.int _, H0, J.kept hk, ⟨t, rfl⟩, q⟩
theorem c_minD {X : Cx} {k : Nat} (hr : Room k X.A) : CallRK X (.builtin "min") [Str.ofString "default"] (rMaxD X.K fun n r => r.foldl min n) := by
  intro pn s0 σ0 H0 vs zs us ws Q0 J r rz h
  obtain ⟨a, ns, d, rfl, rfl, hs, q⟩ := h
  obtain ⟨its, rv, pl, hz⟩ := J.list hs
  obtain ⟨u, rfl, ru⟩ := vals1 r
  cases ru
  obtain ⟨dv, rfl, rd⟩ := vals1 rz
  have hu := hr.units
  refine PySem.W.min_list_default hr.hd pl.isList (reads_ints rv) (alike_ints ns) (by have := depth_ints ns; omega) (fun e0 h' tk hk => ?_) fun y ys i v h' tk bs e1 hv rd' hk => ?_
  · have e2 : ns = [] := by simpa using e0
    subst e2
    exact ⟨d, H0, J.kept hk, rd, q⟩
  · cases ns with
    | nil => cases e1
    | cons n r' =>
      have e3 : PyData.int n = y ∧ r'.map PyData.int = ys := by
        rw [List.map_cons] at e1
        exact List.cons.inj e1
      obtain ⟨e4, e5⟩ := e3
      subst e4 e5
      rw [PySem.W.minD_ints] at rd'
      cases rd' with
      | int _ t => exact ⟨.int _, H0, J.kept hk, ⟨t, rfl⟩, q⟩
/-! ## calls of one's own defs, in one piece -/
section
variable (P : Program) (w : World) (K : PySem.W.Frag) (mg : Str → Option Value) (base : Heap) (CX : CXT)
/-- the module's name x holds a def that keeps sp -/
def Cal (x : Str) (k : Nat) (ps : List Str) (sp : Sp) : Prop :=
  ∃ f fd, FnOk P w K mg base CX k f fd ps sp ∧ mg x = some (.ref f) ∧ PySem.W.keepIn K (.ref f) = true ∧ Binds K fd ps []
/-- the class at C has a method m that keeps sp -/
def Met (C : Addr) (m : Str) (k : Nat) (ps : List Str) (sp : Sp) : Prop :=
  ∃ f fd, FnOk P w K mg base CX k f fd ps sp ∧ Meth K C m f ∧ Binds K fd ps []
/-- the module's name x holds the class at C, whose __init__ keeps sp -/
def Mak (x : Str) (C : Addr) (k : Nat) (ps : List Str) (sp : Sp) : Prop :=
  ∃ f fd, FnOk P w K mg base CX k f fd ps sp ∧ mg x = some (.ref C) ∧ Mk K C f ∧ Binds K fd ps []
end
section
variable {X : Cx} {CX : CXT} {k j : Nat} {C : Addr} {ps : List Str} {sp : Sp} {E : XK} {x m : Str} {p pos apos : Pos} {e o : Expr} {es : List Expr} {ta : TE} {t : TA}
theorem pe_cal (c : Cal X.prog X.w X.K X.mg X.base CX x k ps sp) (hr : Room j X.A) (hk : k ≤ j) (hg : Gl X x) (hx : Passes CX X E)
    (ha : PA X (e :: es) t) (hdb : (x == ("__debug__" : Str)) = false := by decide) (he : starEach (e :: es) X.env = (false, eval e X.env) :: starEach es X.env := by rfl) (hpl : (backTo pos (starEach es X.env)).any (·.1) = false := by rfl) :
    PE X (.Call (.Name x p) (e :: es) [] pos) (tCall sp [] E t) := by
  obtain ⟨f, fd, F, hm, kp, b⟩ := c
  exact pe_call F (hr.mono hk) hg hm kp b .nil hx ha hdb he hpl
theorem pe_met {pl : Sem Bool} (he : PE X o ta) (c : Cls X.K C) (M : Met X.prog X.w X.K X.mg X.base CX C m k ps sp) (hr : Room j X.A) (hk : k ≤ j) (hx : Passes CX X E) (ha : PA X (e :: es) t)
    (hst : starEach (e :: es) X.env = (false, eval e X.env) :: starEach es X.env := by rfl) (hpl : (backTo pos (starEach es X.env)).any (·.1) = false := by rfl)
    (ht : eval (.Call (.Attribute o m apos) (e :: es) [] pos) X.env = (do
      let ov ← eval o X.env
      standAt apos.atName
      let (f, first) ← holding [ov] (getMethod ov m pl)
      callWith pos f first (backTo pos (starEach (e :: es) X.env)) (backToKw pos (keywordEach [] X.env))) := by rfl) :
    PE X (.Call (.Attribute o m apos) (e :: es) [] pos) (tMeth C m sp [] E ta t) := by
  obtain ⟨f, fd, F, hm, b⟩ := M
  exact pe_meth he c hm F (hr.mono hk) b .nil hx ha hst hpl ht
theorem pe_met0 {pl : Sem Bool} (he : PE X o ta) (c : Cls X.K C) (M : Met X.prog X.w X.K X.mg X.base CX C m k ps sp) (hr : Room j X.A) (hk : k ≤ j) (hx : Passes CX X E)
    (ht : eval (.Call (.Attribute o m apos) [] [] pos) X.env = (do
      let ov ← eval o X.env
      standAt apos.atName
      let (f, first) ← holding [ov] (getMethod ov m pl)
      callWith pos f first (backTo pos (starEach [] X.env)) (backToKw pos (keywordEach [] X.env))) := by rfl) :
    PE X (.Call (.Attribute o m apos) [] [] pos) (tMeth C m sp [] E ta tNil) := by
  obtain ⟨f, fd, F, hm, b⟩ := M
  exact pe_meth0 he c hm F (hr.mono hk) b .nil hx ht
theorem pe_mak (c : Mak X.prog X.w X.K X.mg X.base CX x C k ps sp) (hr : Room j X.A) (hk : k + 1 ≤ j) (hg : Gl X x) (hx : Passes CX X E)
    (ha : PA X (e :: es) t) (hdb : (x == ("__debug__" : Str)) = false := by decide) (he : starEach (e :: es) X.env = (false, eval e X.env) :: starEach es X.env := by rfl) (hpl : (backTo pos (starEach es X.env)).any (·.1) = false := by rfl) :
    PE X (.Call (.Name x p) (e :: es) [] pos) (tMake C sp [] E t) := by
  obtain ⟨f, fd, F, hm, M, b⟩ := c
  exact pe_make M F (hr.mono hk) hg hm b .nil hx ha hdb he hpl
end
/-- where a def of the text stands: the module's name x | the class's method m -/
def DefAt (K : PySem.W.Frag) (mg : Str → Option Value) (x : Str) (st : Stmt) (ps : List Str) : Prop :=
  ∃ f fd, Fun K x x st f fd ∧ mg x = some (.ref f) ∧ Binds K fd ps []
def MetAt (K : PySem.W.Frag) (C : Addr) (m q : Str) (st : Stmt) (ps : List Str) : Prop :=
  ∃ f fd, Fun K m q st f fd ∧ Meth K C m f ∧ Binds K fd ps []
def IniAt (K : PySem.W.Frag) (mg : Str → Option Value) (x q : Str) (C : Addr) (st : Stmt) (ps : List Str) : Prop :=
  ∃ f fd, Fun K "__init__" q st f fd ∧ mg x = some (.ref C) ∧ Mk K C f ∧ Binds K fd ps []
section
variable {P : Program} {w : World} {K : PySem.W.Frag} {mg : Str → Option Value} {base : Heap} {x m q : Str} {st : Stmt} {N ps : List Str} {C : Addr} {k : Nat} {sp : Sp}
/-- a def, by its body; f: where it stands (for a def that calls itself) -/
theorem DefAt.ok (D : DefAt K mg x st ps) (S : FnScope N ps (defScope st)) (len : ∀ vs H Q E, sp vs H Q E → vs.length = ps.length)
    (hbody : ∀ (f : Addr) (cdv : Value) (A : Around) (outer : List Env) (s : Shared) (H : Hp) (vs : List V) (Q : VK) (E : XK), Room k (A.deeper (envOfC x (defScope st) s.heap.objs.size f cdv)) → sp vs H Q E →
      ∃ t, PSs (cxOf CX0 P w K mg base N x (defScope st) f cdv A outer s H E).nox (defBody st) t ∧ t { nx := fun _ H' => Q .non H', rt := Q } (start N vs) H) : Cal P w K mg base CX0 x (k + 1) ps sp := by
  obtain ⟨f, fd, F, hm, b⟩ := D
  exact ⟨f, fd, F.ok S len (hbody f), hm, F.kp, b⟩
theorem MetAt.ok (D : MetAt K C m q st ps) (S : FnScope N ps (defScope st)) (len : ∀ vs H Q E, sp vs H Q E → vs.length = ps.length)
    (hbody : ∀ (f : Addr) (cdv : Value) (A : Around) (outer : List Env) (s : Shared) (H : Hp) (vs : List V) (Q : VK) (E : XK), Room k (A.deeper (envOfC q (defScope st) s.heap.objs.size f cdv)) → sp vs H Q E →
      ∃ t, PSs (cxOf CX0 P w K mg base N q (defScope st) f cdv A outer s H E).nox (defBody st) t ∧ t { nx := fun _ H' => Q .non H', rt := Q } (start N vs) H) : Met P w K mg base CX0 C m (k + 1) ps sp := by
  obtain ⟨f, fd, F, hm, b⟩ := D
  exact ⟨f, fd, F.ok S len (hbody f), hm, b⟩
theorem IniAt.ok (D : IniAt K mg x q C st ps) (S : FnScope N ps (defScope st)) (len : ∀ vs H Q E, sp vs H Q E → vs.length = ps.length)
    (hbody : ∀ (f : Addr) (cdv : Value) (A : Around) (outer : List Env) (s : Shared) (H : Hp) (vs : List V) (Q : VK) (E : XK), Room k (A.deeper (envOfC q (defScope st) s.heap.objs.size f cdv)) → sp vs H Q E →
      ∃ t, PSs (cxOf CX0 P w K mg base N q (defScope st) f cdv A outer s H E).nox (defBody st) t ∧ t { nx := fun _ H' => Q .non H', rt := Q } (start N vs) H) : Mak P w K mg base CX0 x C (k + 1) ps sp := by
  obtain ⟨f, fd, F, hm, M, b⟩ := D
  exact ⟨f, fd, F.ok S len (hbody f), hm, M, b⟩
end
end Tk
namespace Tk
open PySem PySem.Spec PyProof.Rows L2
/-! ## the rules once more, the written part named -/
section
variable {X : Cx} (K : PySem.W.Frag) (ek : X.K = K) {a b e o value : Expr} {es : List Expr} {ta tb te to tl tv : TE} {t : TA} {pos pos' p apos cpos tpos : Pos} {f x : Str} {k : Nat}
include ek
theorem k_add : OpR X (binaryOp .Add) (uAdd K) := by subst ek; exact o_add
theorem k_eq (hr : Room k X.A) : OpR X (compareOp .Eq) (uEq K) := by subst ek; exact o_eq hr
theorem k_ne (hr : Room k X.A) : OpR X (compareOp .NotEq) (uNe K) := by subst ek; exact o_ne hr
theorem k_in (hr : Room k X.A) : OpR X (compareOp .In) (uIn K) := by subst ek; exact o_in hr
theorem k_notIn (hr : Room k X.A) : OpR X (compareOp .NotIn) (uNotIn K) := by subst ek; exact o_notIn hr
theorem k_ix (hr : Room k X.A) : IxR X (uIx K) := by subst ek; exact o_ix hr
theorem k_sl : SlR X (uSl K) := by subst ek; exact o_sl
theorem k_len : CallR X (.builtin "len") (uLen K) := by subst ek; exact c_len
theorem k_tup : CallR X (.type "tuple") (uTup K) := by subst ek; exact c_tup
theorem k_lst : CallR X (.type "list") (uLst K) := by subst ek; exact c_lst
theorem k_min (hc : X.calm = true) : CallR X (.builtin "min") (uMin K) := by subst ek; exact c_min hc
theorem k_max (hc : X.calm = true) : CallR X (.builtin "max") (uMax K) := by subst ek; exact c_max hc
theorem k_maxD (hr : Room k X.A) : CallRK X (.builtin "max") [Str.ofString "default"] (rMaxD K fun n r => r.foldl max n) := by subst ek; exact c_maxD hr
theorem k_minD (hr : Room k X.A) : CallRK X (.builtin "min") [Str.ofString "default"] (rMaxD K fun n r => r.foldl min n) := by subst ek; exact c_minD hr
theorem k_sum (hc : X.calm = true) : CallR X (.builtin "sum") (rSum K) := by subst ek; exact cr_sum hc
theorem k_all (hc : X.calm = true) : CallR X (.builtin "all") (rAll K) := by subst ek; exact cr_all hc
theorem k_any (hc : X.calm = true) : CallR X (.builtin "any") (rAny K) := by subst ek; exact cr_any hc
theorem k_isi : CallR X (.builtin "isinstance") (rIsi K) := by subst ek; exact call_isi
theorem k_fld (he : PE X e ta) (hb : attributeBase e f X.env (eval e X.env) = eval e X.env) : PE X (.Attribute e f pos) (tFld K ta f) := by subst ek; exact pe_fld he hb
theorem k_sfld (ha : PE X o ta) (hv : PE X value tv) (hs : swapsWith value (some (.Attribute o f pos')) pos.line X.env = pure false) : PS X (.Assign [.Attribute o f pos'] value pos) (sFld K ta tv f) := by subst ek; exact ps_fld ha hv hs
theorem k_fldaug {op : Operator} {rd : V → V → Hp → VK → Prop} (ha : PE X o ta) (hv : PE X value tv) (hop : InOp X op rd) : PS X (.AugAssign (.Attribute o f tpos) op value pos) (sFldAug K ta tv rd f) := by subst ek; exact ps_fldaug ha hv hop
theorem k_sq {tg l : Expr} (hl : PE X l tl) : PI X tg l (iSq K tl) := by subst ek; exact pi_sq hl
theorem k_en {elts : List Expr} {kk : Nat} (hg : Gl X "enumerate") (hm : X.mg "enumerate" = none) (ha : PA X [e] t) (hs : starEach [e] X.env = [(false, eval e X.env)] := by rfl) :
    PI X (.Tuple elts kk tpos) (.Call (.Name "enumerate" p) [e] [] pos) (iEn K t) := by subst ek; exact pi_en hg hm ha hs
theorem k_un {kk : Nat} {ts : TGs} {n : Nat} (hc : X.calm = true) (h : PGs X es ts) (hn : (assignEach es X.env).length = n := by rfl) (hst : (assignEach es X.env).findIdx? (·.1) = none := by rfl) : PG X (.Tuple es kk pos) (gUn K n ts) := by subst ek; exact pg_un hc h hn hst
end
/-- a value's truth, as a test -/
def tTr (K : PySem.W.Frag) (ta : TE) : TT := fun σ H Q => ta σ H fun x H' => ∃ k, TruV K x H' k ∧ Q k H'
theorem k_tr {X : Cx} (K : PySem.W.Frag) (ek : X.K = K) {a : Expr} {ta : TE} (ha : PE X a ta) (he : ∀ whole, isTrue a X.env whole = (do let v ← whole; standAt a.pos; holding [v] (truthy v)) := by intro _; rfl) : PT X a (tTr K ta) := by
  subst ek; exact pt_truth ha he
section
variable {X : Cx} {o e : Expr} {es : List Expr} {to : TE} {t : TA} {name : Str} {apos cpos : Pos} {T id : String} {r : V → List V → Hp → VK → Prop}
theorem k_bm0 (K : PySem.W.Frag) (ek : X.K = K) (pa : PlainAttrs T) (slot : Slot T name id) (hty : typeOf (.builtin id) = pure (.type "method_descriptor")) (hm : MtR X id r) (ho : PE X o to)
    (hbase : attributeBase o name X.env (eval o X.env) = eval o X.env := by rfl) (hline : (apos.endLine == cpos.line) = true := by rfl) : PE X (.Call (.Attribute o name apos) [] [] cpos) (tBM0 K T r to) := by
  subst ek; exact pe_bm0 pa slot hty hm ho hbase hline
theorem k_bm (K : PySem.W.Frag) (ek : X.K = K) (pa : PlainAttrs T) (slot : Slot T name id) (hty : typeOf (.builtin id) = pure (.type "method_descriptor")) (hm : MtR X id r) (ho : PE X o to) (ha : PA X (e :: es) t)
    (hbase : attributeBase o name X.env (eval o X.env) = eval o X.env := by rfl)
    (hfew : ((backTo cpos (starEach (e :: es) X.env)).all (fun x => !x.1) && (backToKw cpos (keywordEach [] X.env)).all (fun x => x.1.isSome)
      && decide ((e :: es).length + ([] : List Keyword).length + (if ([] : List Keyword).isEmpty then 0 else 1) < 30)) = true := by rfl)
    (hline : (apos.endLine == cpos.line) = true := by rfl) (hs : starEach (e :: es) X.env = (false, eval e X.env) :: starEach es X.env := by rfl) (hplain : (backTo cpos (starEach es X.env)).any (·.1) = false := by rfl) :
    PE X (.Call (.Attribute o name apos) (e :: es) [] cpos) (tBM K T r to t) := by
  subst ek; exact pe_bm pa slot hty hm ho ha hbase hfew hline hs hplain
/-- a name of the module that holds a number, a text .. -/
theorem pe_gv {x : Str} {v : V} {pos : Pos} (hg : Gl X x) (h : ∃ u, X.mg x = some u ∧ RelV v u) (hd : (x == ("__debug__" : Str)) = false := by decide) : PE X (.Name x pos) (tC v) := by
  obtain ⟨u, hm, rr⟩ := h
  exact pe_glob hg hm rr hd
end
/-! ## one step of a reading -/
section
variable {K : PySem.W.Frag} {σ σ' : L2.St} {H : Hp} {Q : VK} {QB : Bool → Hp → Prop} {QL : List V → Hp → Prop} {N B C : L2.St → Hp → Prop} {R : VK} {t u : TS} {ta tb tc te : TE} {tr : TA} {tt tt' : TT} {g : TG} {i : Nat} {v x y : V} {b : Bool} {r r' : R2}
theorem i_seq (h : t ⟨u ⟨N, R, B, C⟩, R, B, C⟩ σ H) : tSeq t u ⟨N, R, B, C⟩ σ H := h
theorem i_asg (h : te σ H fun x H1 => g x σ H1 N) : tAsg te g ⟨N, R, B, C⟩ σ H := h
theorem i_gn {P : L2.St → Hp → Prop} (e : σ.set i (some v) = σ') (h : P σ' H) : gName i v σ H P := by subst e; exact h
theorem i_drop (h : te σ H fun _ H1 => N σ H1) : tDrop te ⟨N, R, B, C⟩ σ H := h
theorem i_ret (h : te σ H R) : tRet te ⟨N, R, B, C⟩ σ H := h
theorem i_retN (h : R .non H) : tRetN ⟨N, R, B, C⟩ σ H := h
theorem i_ifS (h : tt σ H fun b H1 => if b = true then t ⟨N, R, B, C⟩ σ H1 else u ⟨N, R, B, C⟩ σ H1) : tIfS tt t u ⟨N, R, B, C⟩ σ H := h
theorem i_next (h : N σ H) : tNext ⟨N, R, B, C⟩ σ H := h
theorem i_brk (h : B σ H) : tBreak ⟨N, R, B, C⟩ σ H := h
theorem i_ct (h : C σ H) : tCont ⟨N, R, B, C⟩ σ H := h
theorem i_var (e : σ[i]? = some (some v)) (h : Q v H) : tVar i σ H Q := ⟨v, e, h⟩
theorem i_c (h : Q v H) : tC v σ H Q := h
theorem i_op (h : ta σ H fun x H1 => tb σ H1 fun y H2 => r x y H2 Q) : tOp r ta tb σ H Q := h
theorem i_un {ru : V → Hp → VK → Prop} (h : ta σ H fun x H1 => ru x H1 Q) : tUn ru ta σ H Q := h
theorem i_test (h : te σ H fun x H' => ∃ k, x = .bl k ∧ QB k H') : tTest te σ H QB := h
theorem i_tB (h : te σ H fun x H' => ∃ k, x = .bl k ∧ QB k H') : tB te σ H QB := h
theorem i_bl {R : Bool → Prop} (h : R b) : ∃ k, V.bl b = .bl k ∧ R k := ⟨b, rfl, h⟩
theorem i_tr (h : te σ H fun x H' => ∃ k, TruV K x H' k ∧ QB k H') : tTr K te σ H QB := h
theorem i_truB {R : Bool → Prop} (h : R b) : ∃ k, TruV K (.bl b) H k ∧ R k := ⟨b, rfl, h⟩
theorem i_truI {R : Bool → Prop} {n : Int} (h : R (n != 0)) : ∃ k, TruV K (.int n) H k ∧ R k := ⟨_, rfl, h⟩
theorem i_truN {R : Bool → Prop} (h : R false) : ∃ k, TruV K .non H k ∧ R k := ⟨_, rfl, h⟩
theorem i_truL {R : Bool → Prop} {a : Addr} {xs : List V} (e : SqL K H a xs) (h : R (!xs.isEmpty)) : ∃ k, TruV K (.ref a) H k ∧ R k := ⟨_, .inl ⟨xs, e, rfl⟩, h⟩
theorem i_truT {R : Bool → Prop} {a : Addr} {xs : List V} (e : SqT K H a xs) (h : R (!xs.isEmpty)) : ∃ k, TruV K (.ref a) H k ∧ R k := ⟨_, .inr (.inl ⟨xs, e, rfl⟩), h⟩
theorem i_truS {R : Bool → Prop} {z : Str} (e : z.length ≤ sizeLine) (h : R ((z.length : Int) != 0)) : ∃ k, TruV K (.str z) H k ∧ R k := ⟨_, ⟨e, rfl⟩, h⟩
theorem i_and (h : tt σ H fun c H1 => if c = true then tt' σ H1 QB else QB false H1) : tAnd tt tt' σ H QB := h
theorem i_or (h : tt σ H fun c H1 => if c = true then QB true H1 else tt' σ H1 QB) : tOr tt tt' σ H QB := h
theorem i_not (h : tt σ H fun c H1 => QB (!c) H1) : tNot tt σ H QB := h
/-- both asked, the answer one -/
theorem i_and2 {b1 b2 : Bool} (h1 : ∀ Q', Q' b1 H → tt σ H Q') (h2 : b1 = true → ∀ Q', Q' b2 H → tt' σ H Q') (q : QB (b1 && b2) H) : tAnd tt tt' σ H QB := by
  refine h1 _ ?_
  cases b1 with
  | true => exact h2 rfl _ q
  | false => exact q
theorem i_or2 {b1 b2 : Bool} (h1 : ∀ Q', Q' b1 H → tt σ H Q') (h2 : b1 = false → ∀ Q', Q' b2 H → tt' σ H Q') (q : QB (b1 || b2) H) : tOr tt tt' σ H QB := by
  refine h1 _ ?_
  cases b1 with
  | true => exact q
  | false => exact h2 rfl _ q
theorem i_andV (h : ta σ H fun x H1 => ∃ c, x = .bl c ∧ if c = true then tb σ H1 Q else Q (.bl false) H1) : tAndV ta tb σ H Q := h
theorem i_orV (h : ta σ H fun x H1 => ∃ c, x = .bl c ∧ if c = true then Q (.bl true) H1 else tb σ H1 Q) : tOrV ta tb σ H Q := h
theorem i_notV (h : ta σ H fun x H1 => ∃ c, x = .bl c ∧ Q (.bl (!c)) H1) : tNotV ta σ H Q := h
theorem i_andV2 {b1 b2 : Bool} (h1 : ∀ Q' : VK, Q' (.bl b1) H → ta σ H Q') (h2 : b1 = true → ∀ Q' : VK, Q' (.bl b2) H → tb σ H Q') (q : Q (.bl (b1 && b2)) H) : tAndV ta tb σ H Q := by
  refine h1 _ ⟨b1, rfl, ?_⟩
  cases b1 with
  | true => exact h2 rfl _ q
  | false => exact q
theorem i_orV2 {b1 b2 : Bool} (h1 : ∀ Q' : VK, Q' (.bl b1) H → ta σ H Q') (h2 : b1 = false → ∀ Q' : VK, Q' (.bl b2) H → tb σ H Q') (q : Q (.bl (b1 || b2)) H) : tOrV ta tb σ H Q := by
  refine h1 _ ⟨b1, rfl, ?_⟩
  cases b1 with
  | true => exact q
  | false => exact h2 rfl _ q
theorem i_if (h : tt σ H fun c H1 => if c = true then ta σ H1 Q else tb σ H1 Q) : tIf tt ta tb σ H Q := h
theorem i_chain (h : ta σ H fun x H1 => tb σ H1 fun y H2 => r x y H2 fun z H3 => ∃ k, z = .bl k ∧ (if k = true then tc σ H3 fun w' H4 => r' y w' H4 Q else Q (.bl false) H3)) : tChain r r' ta tb tc σ H Q := h
theorem i_nil (h : QL [] H) : tNil σ H QL := h
theorem i_cons (h : ta σ H fun x H1 => tr σ H1 fun xs H2 => QL (x :: xs) H2) : tCons ta tr σ H QL := h
theorem i_call {sp : Sp} {dvs : List V} {E : XK} (h : tr σ H fun vs H1 => sp (vs ++ dvs) H1 Q E) : tCall sp dvs E tr σ H Q := h
theorem i_cb {rc : List V → Hp → VK → Prop} (h : tr σ H fun vs H1 => rc vs H1 Q) : tCB rc tr σ H Q := h
theorem i_ckw {rc : List V → List V → Hp → VK → Prop} {tk : TA} (h : tr σ H fun vs H1 => tk σ H1 fun zs H2 => rc vs zs H2 Q) : tCKw rc tr tk σ H Q := h
theorem i_sl {rs : V → Option Int → Option Int → Hp → VK → Prop} {tl th : TO} (h : te σ H fun x H1 => tl σ H1 fun l H2 => th σ H2 fun u H3 => rs x l u H3 Q) : tSl rs te tl th σ H Q := h
theorem i_nop {QO : Option Int → Hp → Prop} (h : QO none H) : tNoPart σ H QO := h
theorem i_part {QO : Option Int → Hp → Prop} (h : te σ H fun x H1 => ∃ i, x = .int i ∧ QO (some i) H1) : tPart te σ H QO := h
theorem i_xi {R : Int → Prop} {n : Int} (h : R n) : ∃ i, V.int n = .int i ∧ R i := ⟨n, rfl, h⟩
theorem i_bm {T : String} {rm : V → List V → Hp → VK → Prop} (h : ta σ H fun x H1 => tyV K T x H1 ∧ tr σ H1 fun xs H2 => rm x xs H2 Q) : tBM K T rm ta tr σ H Q := h
theorem i_bm0 {T : String} {rm : V → List V → Hp → VK → Prop} (h : ta σ H fun x H1 => tyV K T x H1 ∧ rm x [] H1 Q) : tBM0 K T rm ta σ H Q := h
def FldK (K : PySem.W.Frag) (f : Str) (Q : VK) : VK := fun x H1 => ∃ a C dx fs v, x = .ref a ∧ H1 a = some (.ins C dx fs) ∧ Cls K C ∧ NoAttr K C f ∧ fs.lookup f = some v ∧ Q v H1
theorem i_fld {f : Str} (h : ta σ H (FldK K f Q)) : tFld K ta f σ H Q := h
theorem i_fldv {f : Str} {a C dx : Addr} {fs : List (Str × V)} (e : H a = some (.ins C dx fs)) (c : Cls K C) (n : NoAttr K C f) (l : fs.lookup f = some v) (h : Q v H) : FldK K f Q (.ref a) H := ⟨a, C, dx, fs, v, rfl, e, c, n, l, h⟩
theorem i_meth {C : Addr} {m : Str} {sp : Sp} {dvs : List V} {E : XK} (h : ta σ H fun x H1 => ∃ a dx fs, x = .ref a ∧ H1 a = some (.ins C dx fs) ∧ fs.lookup m = none ∧ tr σ H1 fun vs H2 => sp (x :: (vs ++ dvs)) H2 Q E) : tMeth C m sp dvs E ta tr σ H Q := h
theorem i_methv {C : Addr} {m : Str} {a dx : Addr} {fs : List (Str × V)} {P : Prop} (e : H a = some (.ins C dx fs)) (l : fs.lookup m = none) (h : P) : ∃ a' dx' fs', V.ref a = .ref a' ∧ H a' = some (.ins C dx' fs') ∧ fs'.lookup m = none ∧ P := ⟨a, dx, fs, rfl, e, l, h⟩
/-! ### by the values -/
theorem i_I0 {gg : Int → Int → V} {m n : Int} (h : Q (gg m n) H) : rI0 gg (.int m) (.int n) H Q := ⟨m, n, rfl, rfl, h⟩
theorem i_add {m n : Int} (h : Q (.int (m + n)) H) : uAdd K (.int m) (.int n) H Q := .inl ⟨m, n, rfl, rfl, h⟩
theorem i_addS {m n : Str} (e : m.length + n.length ≤ sizeLine) (h : Q (.str (m ++ n)) H) : uAdd K (.str m) (.str n) H Q := .inr (.inl ⟨m, n, rfl, rfl, e, h⟩)
theorem i_sub {m n : Int} (h : Q (.int (m - n)) H) : uSub (.int m) (.int n) H Q := ⟨m, n, rfl, rfl, h⟩
theorem i_mul {m n : Int} (e : CMul m n) (h : Q (.int (m * n)) H) : uMul (.int m) (.int n) H Q := .inl ⟨m, n, rfl, rfl, e, h⟩
theorem i_mulW {m n : Int} (e : CMulW m n) (h : Q (.int (m * n)) H) : uMul (.int m) (.int n) H Q := .inr (.inl ⟨m, n, rfl, rfl, e, h⟩)
theorem i_div {m n : Int} (e : CDiv m n) (h : Q (.int (m / n)) H) : uDiv (.int m) (.int n) H Q := .inl ⟨m, n, rfl, rfl, e, h⟩
theorem i_divW {m n : Int} (e : CDivW m n) (h : Q (.int (m / n)) H) : uDiv (.int m) (.int n) H Q := .inr ⟨m, n, rfl, rfl, e, h⟩
theorem i_mod {m n : Int} (e : 0 < n) (h : Q (.int (m % n)) H) : uMod (.int m) (.int n) H Q := ⟨m, n, rfl, rfl, e, h⟩
theorem i_pow {m n : Int} (e : CPow m n) (h : Q (.int (m ^ n.toNat)) H) : uPow (.int m) (.int n) H Q := ⟨m, n, rfl, rfl, e, h⟩
theorem i_neg {m : Int} (h : Q (.int (-m)) H) : uNeg (.int m) H Q := ⟨m, rfl, h⟩
theorem i_lt {m n : Int} (h : Q (.bl (decide (m < n))) H) : uLt (.int m) (.int n) H Q := ⟨m, n, rfl, rfl, h⟩
theorem i_le {m n : Int} (h : Q (.bl (decide (m ≤ n))) H) : uLe (.int m) (.int n) H Q := ⟨m, n, rfl, rfl, h⟩
theorem i_gt {m n : Int} (h : Q (.bl (decide (n < m))) H) : uGt (.int m) (.int n) H Q := ⟨m, n, rfl, rfl, h⟩
theorem i_ge {m n : Int} (h : Q (.bl (decide (n ≤ m))) H) : uGe (.int m) (.int n) H Q := ⟨m, n, rfl, rfl, h⟩
theorem i_isN (h : Q (.bl (decide (x = .non))) H) : uIsN x .non H Q := ⟨rfl, h⟩
theorem i_isNn (h : Q (.bl true) H) : uIsN .non .non H Q := ⟨rfl, h⟩
theorem i_isNi {n : Int} (h : Q (.bl false) H) : uIsN (.int n) .non H Q := ⟨rfl, h⟩
theorem i_isNr {a : Addr} (h : Q (.bl false) H) : uIsN (.ref a) .non H Q := ⟨rfl, h⟩
theorem i_isNs {z : Str} (h : Q (.bl false) H) : uIsN (.str z) .non H Q := ⟨rfl, h⟩
theorem i_isNb {c : Bool} (h : Q (.bl false) H) : uIsN (.bl c) .non H Q := ⟨rfl, h⟩
theorem i_notNb {c : Bool} (h : Q (.bl true) H) : uNotN (.bl c) .non H Q := ⟨rfl, h⟩
theorem i_notNn (h : Q (.bl false) H) : uNotN .non .non H Q := ⟨rfl, h⟩
theorem i_notNi {n : Int} (h : Q (.bl true) H) : uNotN (.int n) .non H Q := ⟨rfl, h⟩
theorem i_notNr {a : Addr} (h : Q (.bl true) H) : uNotN (.ref a) .non H Q := ⟨rfl, h⟩
theorem i_notNs {z : Str} (h : Q (.bl true) H) : uNotN (.str z) .non H Q := ⟨rfl, h⟩
theorem i_notN (h : Q (.bl (!decide (x = .non))) H) : uNotN x .non H Q := ⟨rfl, h⟩
theorem i_eqI {m n : Int} (h : Q (.bl (decide (m = n))) H) : uEq K (.int m) (.int n) H Q := .inl ⟨rfl, by rw [show decide (V.int m = V.int n) = decide (m = n) by simp]; exact h⟩
theorem i_eqS {m n : Str} (h : Q (.bl (decide (m = n))) H) : uEq K (.str m) (.str n) H Q := .inl ⟨rfl, by rw [show decide (V.str m = V.str n) = decide (m = n) by simp]; exact h⟩
theorem i_eqB {m n : Bool} (h : Q (.bl (decide (m = n))) H) : uEq K (.bl m) (.bl n) H Q := .inl ⟨rfl, by rw [show decide (V.bl m = V.bl n) = decide (m = n) by simp]; exact h⟩
theorem i_neI {m n : Int} (h : Q (.bl (!decide (m = n))) H) : uNe K (.int m) (.int n) H Q := .inl ⟨rfl, by rw [show decide (V.int m = V.int n) = decide (m = n) by simp]; exact h⟩
theorem i_neS {m n : Str} (h : Q (.bl (!decide (m = n))) H) : uNe K (.str m) (.str n) H Q := .inl ⟨rfl, by rw [show decide (V.str m = V.str n) = decide (m = n) by simp]; exact h⟩
theorem i_neB {m n : Bool} (h : Q (.bl (!decide (m = n))) H) : uNe K (.bl m) (.bl n) H Q := .inl ⟨rfl, by rw [show decide (V.bl m = V.bl n) = decide (m = n) by simp]; exact h⟩
theorem i_ixL {a : Addr} {xs : List V} {n : Int} (e : SqL K H a xs) (he : atI xs n = some v) (h : Q v H) : uIx K (.ref a) (.int n) H Q := .inl (.inl ⟨a, xs, n, v, rfl, rfl, e, he, h⟩)
theorem i_ixT {a : Addr} {xs : List V} {n : Int} (e : SqT K H a xs) (he : atI xs n = some v) (h : Q v H) : uIx K (.ref a) (.int n) H Q := .inl (.inr (.inl ⟨a, xs, n, v, rfl, rfl, e, he, h⟩))
theorem i_ixS {z : Str} {n : Int} {c : Nat} (e : z.length ≤ sizeLine) (he : atI z.cps.toList n = some c) (h : Q (.str ⟨#[c]⟩) H) : uIx K (.str z) (.int n) H Q := .inl (.inr (.inr ⟨z, n, c, rfl, rfl, e, he, h⟩))
theorem i_ixK {a : Addr} {kvs : List (Key × V)} {k : Key} (e : H a = some (.dK kvs)) (ek : kV k = y) (he : valV kvs k = some v) (h : Q v H) : uIx K (.ref a) y H Q := .inr ⟨a, v, rfl, by rw [← ek, ← he]; exact DGet.k e, h⟩
theorem i_inK {a : Addr} {kvs : List (Key × V)} {k : Key} (e : H a = some (.dK kvs)) (ek : kV k = y) (h : Q (.bl (valV kvs k).isSome) H) : uIn K y (.ref a) H Q := .inr (.inl ⟨a, _, rfl, by rw [← ek]; exact DGet.k e, h⟩)
theorem i_notInK {a : Addr} {kvs : List (Key × V)} {k : Key} (e : H a = some (.dK kvs)) (ek : kV k = y) (h : Q (.bl (!(valV kvs k).isSome)) H) : uNotIn K y (.ref a) H Q := .inr (.inl ⟨a, _, rfl, by rw [← ek]; exact DGet.k e, h⟩)
theorem i_inL {a : Addr} {xs : List V} (e : SqL K H a xs) (h1 : flatV x = true) (h2 : xs.all flatV = true) (h : Q (.bl (inV x xs)) H) : uIn K x (.ref a) H Q := .inl ⟨a, xs, rfl, .inl e, h1, h2, h⟩
theorem i_inT {a : Addr} {xs : List V} (e : SqT K H a xs) (h1 : flatV x = true) (h2 : xs.all flatV = true) (h : Q (.bl (inV x xs)) H) : uIn K x (.ref a) H Q := .inl ⟨a, xs, rfl, .inr e, h1, h2, h⟩
theorem i_notInL {a : Addr} {xs : List V} (e : SqL K H a xs) (h1 : flatV x = true) (h2 : xs.all flatV = true) (h : Q (.bl (!inV x xs)) H) : uNotIn K x (.ref a) H Q := .inl ⟨a, xs, rfl, .inl e, h1, h2, h⟩
theorem i_notInT {a : Addr} {xs : List V} (e : SqT K H a xs) (h1 : flatV x = true) (h2 : xs.all flatV = true) (h : Q (.bl (!inV x xs)) H) : uNotIn K x (.ref a) H Q := .inl ⟨a, xs, rfl, .inr e, h1, h2, h⟩
theorem i_lenL {a : Addr} {xs : List V} (e : SqL K H a xs) (h : Q (.int xs.length) H) : uLen K [.ref a] H Q := .inl ⟨_, _, rfl, .inl ⟨xs, e, rfl⟩, h⟩
theorem i_lenT {a : Addr} {xs : List V} (e : SqT K H a xs) (h : Q (.int xs.length) H) : uLen K [.ref a] H Q := .inl ⟨_, _, rfl, .inr ⟨xs, e, rfl⟩, h⟩
theorem i_lenS {z : Str} (e : z.length ≤ sizeLine) (h : Q (.int z.length) H) : uLen K [.str z] H Q := .inl ⟨_, _, rfl, ⟨e, rfl⟩, h⟩
theorem i_lenK {a : Addr} {kvs : List (Key × V)} (e : H a = some (.dK kvs)) (h : Q (.int kvs.length) H) : uLen K [.ref a] H Q := .inr ⟨a, kvs, rfl, e, h⟩
theorem i_int {n : Int} (h : Q (.int n) H) : uInt [.int n] H Q := .inl (.inl ⟨n, rfl, h⟩)
theorem i_intB {c : Bool} (h : Q (.int (if c then 1 else 0)) H) : uInt [.bl c] H Q := .inl (.inr ⟨c, rfl, h⟩)
theorem i_min {m n : Int} (h : Q (.int (min m n)) H) : uMin K [.int m, .int n] H Q := .inl ⟨m, n, rfl, by
  rw [show (if n < m then n else m) = min m n by omega]; exact h⟩
theorem i_max {m n : Int} (h : Q (.int (max m n)) H) : uMax K [.int m, .int n] H Q := .inl ⟨m, n, rfl, by
  rw [show (if n > m then n else m) = max m n by omega]; exact h⟩
/-! ### new things -/
theorem new_of {o : HO} {P : Addr → Hp → Prop} (h : ∀ p H', H p = none → Keep [] H H' → H' p = some o → P p H') : ∀ p, H p = none → P p (upd H p o) :=
  fun p hp => h p _ hp (Keep.new hp) upd_same
/-- a new thing that holds the items -/
def NewK (f : List V → HO) (Q : VK) : List V → Hp → Prop := fun xs H1 => xs.length ≤ sizeLine ∧ ∀ p, H1 p = none → Q (.ref p) (upd H1 p (f xs))
theorem i_tupE (h : tr σ H (NewK HO.tup Q)) : tTup tr σ H Q := h
theorem i_lstE (h : tr σ H (NewK HO.lst Q)) : tLst tr σ H Q := h
theorem i_new {f : List V → HO} {xs : List V} (e : xs.length ≤ sizeLine) (h : ∀ p H', H p = none → Keep [] H H' → H' p = some (f xs) → Q (.ref p) H') : NewK f Q xs H :=
  ⟨e, new_of (P := fun p H' => Q (.ref p) H') h⟩
theorem i_newT {xs : List V} (e : xs.length ≤ sizeLine) (h : ∀ p H', H p = none → Keep [] H H' → H' p = some (.tup xs) → Q (.ref p) H') : NewK HO.tup Q xs H := i_new e h
theorem i_tupL {a : Addr} {xs : List V} (e : SqL K H a xs) (h : ∀ p H', H p = none → Keep [] H H' → H' p = some (.tup xs) → Q (.ref p) H') : uTup K [.ref a] H Q :=
  ⟨a, xs, rfl, .inl ⟨e, new_of (P := fun p H' => Q (.ref p) H') h⟩⟩
theorem i_tupT {a : Addr} {xs : List V} (e : SqT K H a xs) (h : Q (.ref a) H) : uTup K [.ref a] H Q := ⟨a, xs, rfl, .inr ⟨e, h⟩⟩
theorem i_lstL {a : Addr} {xs : List V} (e : SqL K H a xs) (h : ∀ p H', H p = none → Keep [] H H' → H' p = some (.lst xs) → Q (.ref p) H') : uLst K [.ref a] H Q :=
  ⟨a, xs, rfl, .inl e, new_of (P := fun p H' => Q (.ref p) H') h⟩
theorem i_lstT {a : Addr} {xs : List V} (e : SqT K H a xs) (h : ∀ p H', H p = none → Keep [] H H' → H' p = some (.lst xs) → Q (.ref p) H') : uLst K [.ref a] H Q :=
  ⟨a, xs, rfl, .inr e, new_of (P := fun p H' => Q (.ref p) H') h⟩
theorem i_catL {a c : Addr} {xs ys : List V} (e1 : H a = some (.lst xs)) (e2 : H c = some (.lst ys)) (e : xs.length + ys.length ≤ sizeLine) (h : ∀ p H', H p = none → Keep [] H H' → H' p = some (.lst (xs ++ ys)) → Q (.ref p) H') : uAdd K (.ref a) (.ref c) H Q :=
  .inr (.inr (.inl ⟨a, c, xs, ys, rfl, rfl, e1, e2, e, new_of (P := fun p H' => Q (.ref p) H') h⟩))
/-- t + u of tuples: some tuple of both -/
theorem i_catT {a c : Addr} {xs ys : List V} (e1 : SqT K H a xs) (e2 : SqT K H c ys) (e : xs.length + ys.length ≤ sizeLine) (h : ∀ p H', Keep [] H H' → SqT K H' p (xs ++ ys) → Q (.ref p) H') : uAdd K (.ref a) (.ref c) H Q := by
  refine .inr (.inr (.inr ⟨a, c, xs, ys, rfl, rfl, e1, e2, e, fun z => ?_, fun _ z => ?_, fun _ _ => new_of (P := fun p H' => Q (.ref p) H') fun p H' _ k hp => h p H' k (SqT.of hp)⟩))
  · subst z; exact h c H Keep.rfl' e2
  · subst z; exact h a H Keep.rfl' (by rw [List.append_nil]; exact e1)
theorem i_slL {a : Addr} {xs : List V} {lo hi : Option Int} (e : SqL K H a xs) (h : ∀ p H', H p = none → Keep [] H H' → H' p = some (.lst (cutV xs lo hi)) → Q (.ref p) H') : uSl K (.ref a) lo hi H Q :=
  .inl ⟨a, xs, rfl, e, new_of (P := fun p H' => Q (.ref p) H') h⟩
theorem i_slS {z : Str} {lo hi : Option Int} (e : z.length ≤ sizeLine) (h : Q (.str (cutS z lo hi)) H) : uSl K (.str z) lo hi H Q := .inr (.inr ⟨z, rfl, e, h⟩)
theorem cut_to (xs : List V) {k : Int} (h : 0 ≤ k) : cutV xs none (some k) = xs.take k.toNat := by
  obtain ⟨k, rfl⟩ := Int.eq_ofNat_of_zero_le h
  unfold cutV
  rw [HT.sIx_nat, HT.sIx_none, List.drop_zero, Int.toNat_natCast, Nat.sub_zero]
  rcases Nat.le_total k xs.length with h | h
  · rw [Nat.min_eq_left h]
  · rw [Nat.min_eq_right h, List.take_length, List.take_of_length_le h]
theorem cut_from (xs : List V) {k : Int} (h : 0 ≤ k) : cutV xs (some k) none = xs.drop k.toNat := by
  obtain ⟨k, rfl⟩ := Int.eq_ofNat_of_zero_le h
  unfold cutV
  rw [HT.sIx_nat, HT.sIx_none, Int.toNat_natCast]
  rcases Nat.le_total k xs.length with h | h
  · rw [Nat.min_eq_left h, ← List.length_drop, List.take_length]
  · rw [Nat.min_eq_right h, List.drop_of_length_le (Nat.le_refl _), List.drop_of_length_le h]; simp
theorem cut_whole (xs : List V) (lo hi : Option Int) (h : HT.sIx xs.length 0 lo = 0 ∧ HT.sIx xs.length xs.length hi = xs.length) : cutV xs lo hi = xs := by
  unfold cutV
  rw [h.1, h.2]
  simp
theorem i_slT {a : Addr} {xs : List V} {lo hi : Option Int} (e : SqT K H a xs) (h : ∀ p H', Keep [] H H' → SqT K H' p (cutV xs lo hi) → Q (.ref p) H') : uSl K (.ref a) lo hi H Q := by
  refine .inr (.inl ⟨a, xs, rfl, e, fun z => ?_, fun _ => new_of (P := fun p H' => Q (.ref p) H') fun p H' _ k hp => h p H' k (SqT.of hp)⟩)
  exact h a H Keep.rfl' (by rw [cut_whole _ _ _ z]; exact e)
theorem i_app {l : Addr} {xs : List V} (e : H l = some (.lst xs)) (hz : xs.length < sizeLine) (h : ∀ H', Keep [l] H H' → H' l = some (.lst (xs ++ [y])) → Q .non H') : rAppend (.ref l) [y] H Q :=
  ⟨l, xs, y, rfl, rfl, e, hz, h _ (Keep.put e trivial) upd_same⟩
theorem i_setL {l : Addr} {xs : List V} {n : Int} {j : Nat} {P : Hp → Prop} (e : H l = some (.lst xs)) (hj : ixN xs.length n = some j) (h : ∀ H', Keep [l] H H' → H' l = some (.lst (xs.set j v)) → P H') : uSet (.ref l) (.int n) v H P :=
  .inl ⟨l, xs, n, j, rfl, rfl, e, hj, h _ (Keep.put e trivial) upd_same⟩
theorem i_setK {l : Addr} {kvs : List (Key × V)} {k : Key} {P : Hp → Prop} (e : H l = some (.dK kvs)) (ek : kV k = y) (hz : kvs.length < sizeLine) (h : ∀ H', Keep [l] H H' → H' l = some (.dK (putK kvs k v)) → P H') : uSet (.ref l) y v H P := by
  subst ek
  exact .inr ⟨l, _, rfl, DPut.k e hz, h _ (Keep.put e trivial) upd_same⟩
/-! ### branches -/
theorem i_ite {c A B : Prop} [Decidable c] (h1 : c → A) (h2 : ¬ c → B) : if decide c = true then A else B := by
  by_cases h : c
  · rw [if_pos (decide_eq_true h)]; exact h1 h
  · rw [if_neg (by simpa using h)]; exact h2 h
theorem i_iteB {c : Bool} {A B : Prop} (h1 : c = true → A) (h2 : c = false → B) : if c = true then A else B := by
  cases c with
  | true => exact h1 rfl
  | false => rw [if_neg Bool.false_ne_true]; exact h2 rfl
theorem i_pos {c A B : Prop} [Decidable c] (hc : c) (h : A) : if decide c = true then A else B := by rw [if_pos (decide_eq_true hc)]; exact h
theorem i_neg' {c A B : Prop} [Decidable c] (hc : ¬ c) (h : B) : if decide c = true then A else B := by rw [if_neg (by simpa using hc)]; exact h
theorem i_T {A B : Prop} (h : A) : if true = true then A else B := by rw [if_pos rfl]; exact h
theorem i_F {A B : Prop} (h : B) : if false = true then A else B := by rw [if_neg Bool.false_ne_true]; exact h
theorem i_NT {A B : Prop} (h : B) : if (!true) = true then A else B := by rw [if_neg (by decide)]; exact h
theorem i_NF {A B : Prop} (h : A) : if (!false) = true then A else B := by rw [if_pos (by decide)]; exact h
theorem i_Npos {c A B : Prop} [Decidable c] (hc : ¬ c) (h : A) : if (!decide c) = true then A else B := by rw [if_pos (by simpa using hc)]; exact h
theorem i_Nneg {c A B : Prop} [Decidable c] (hc : c) (h : B) : if (!decide c) = true then A else B := by rw [if_neg (by simpa using hc)]; exact h
theorem i_posB {c : Bool} {A B : Prop} (hc : c = true) (h : A) : if c = true then A else B := by rw [if_pos hc]; exact h
theorem i_negB {c : Bool} {A B : Prop} (hc : c = false) (h : B) : if c = true then A else B := by rw [if_neg (by rw [hc]; decide)]; exact h
end
theorem atI_of {α : Type} {xs : List α} {i : Int} {v : α} (h0 : 0 ≤ i) (h : xs[i.toNat]? = some v) : atI xs i = some v := by
  have z := atI_nat h
  rwa [Int.toNat_of_nonneg h0] at z
theorem nm_cons {α : Type} {a b : α} {l : List α} (h : a ≠ b) (h' : a ∉ l) : a ∉ b :: l := fun z => (List.mem_cons.mp z).elim h h'
/-! ## looking up a field -/
theorem lk_hit {f : Str} {v : V} {r : List (Str × V)} : List.lookup f ((f, v) :: r) = some v := by simp [List.lookup]
theorem lk_skip {f g : Str} {v : V} {r : List (Str × V)} (h : (f == g) = false) : List.lookup f ((g, v) :: r) = List.lookup f r := by simp [List.lookup, h]
theorem pf_hit {f : Str} {v x : V} {r : List (Str × V)} : putF f v ((f, x) :: r) = (f, v) :: r := by
  show (if f = f then (f, v) :: r else _) = _
  rw [if_pos rfl]
theorem pf_skip {f g : Str} {v x : V} {r : List (Str × V)} (h : (g == f) = false) : putF f v ((g, x) :: r) = (g, x) :: putF f v r := by
  show (if g = f then _ else (g, x) :: putF f v r) = _
  rw [if_neg (by simpa using h)]
end Tk
namespace Tk
open PySem PySem.Spec PyProof.Rows L2
theorem i_st {t : TS} {D : Ends} {σ σ' : L2.St} {H : Hp} (e : σ = σ') (h : t D σ' H) : t D σ H := by subst e; exact h
/-! ## walks -/
section
variable {K : PySem.W.Frag} {σ σw : L2.St} {H H1 : Hp} {R : It → Hp → Prop} {ta : TA} {tl : TE} {a : Addr} {xs : List V}
def Rg1K (R : It → Hp → Prop) : List V → Hp → Prop := fun vs H1 => ∃ j : Int, vs = [.int j] ∧ -(2 ^ 62) ≤ j ∧ j < 2 ^ 62 ∧ R (Itr 0 j.toNat) H1
theorem i_rng1E (h : ta σ H (Rg1K R)) : iRng1 ta σ H R := h
theorem i_rng1 {j : Int} (h1 : -(2 ^ 62) ≤ j) (h2 : j < 2 ^ 62) (h : R (Itr 0 j.toNat) H) : Rg1K R [.int j] H := ⟨j, rfl, h1, h2, h⟩
def Rg2K (R : It → Hp → Prop) : List V → Hp → Prop := fun vs H1 => ∃ i j : Int, vs = [.int i, .int j] ∧ (-(2 ^ 62) ≤ i ∧ i < 2 ^ 62 ∧ -(2 ^ 62) ≤ j ∧ j < 2 ^ 62) ∧ R (Itr i (j - i).toNat) H1
theorem i_rng2E (h : ta σ H (Rg2K R)) : iRng2 ta σ H R := h
theorem i_rng2 {i j : Int} (h1 : -(2 ^ 62) ≤ i) (h2 : i < 2 ^ 62) (h3 : -(2 ^ 62) ≤ j) (h4 : j < 2 ^ 62) (h : R (Itr i (j - i).toNat) H) : Rg2K R [.int i, .int j] H := ⟨i, j, rfl, ⟨h1, h2, h3, h4⟩, h⟩
def SqK (K : PySem.W.Frag) (R : It → Hp → Prop) : VK := fun x H1 => ∃ a, x = .ref a ∧ (((∃ xs, SqL K H1 a xs) ∧ R (Itl K a) H1) ∨ ((∃ xs, SqT K H1 a xs) ∧ R (Itt K a) H1))
theorem i_sqE (h : tl σ H (SqK K R)) : iSq K tl σ H R := h
theorem i_sqL (e : SqL K H a xs) (h : R (Itl K a) H) : SqK K R (.ref a) H := ⟨a, rfl, .inl ⟨⟨xs, e⟩, h⟩⟩
theorem i_sqT (e : SqT K H a xs) (h : R (Itt K a) H) : SqK K R (.ref a) H := ⟨a, rfl, .inr ⟨⟨xs, e⟩, h⟩⟩
def EnK (K : PySem.W.Frag) (R : It → Hp → Prop) : List V → Hp → Prop := fun vs H1 => ∃ a, vs = [.ref a] ∧ (((∃ xs, SqL K H1 a xs) ∧ R (Ite K a) H1) ∨ ((∃ xs, SqT K H1 a xs) ∧ R (Ieu K a) H1))
theorem i_enE (h : ta σ H (EnK K R)) : iEn K ta σ H R := h
theorem i_enL (e : SqL K H a xs) (h : R (Ite K a) H) : EnK K R [.ref a] H := ⟨a, rfl, .inl ⟨⟨xs, e⟩, h⟩⟩
theorem i_enT (e : SqT K H a xs) (h : R (Ieu K a) H) : EnK K R [.ref a] H := ⟨a, rfl, .inr ⟨⟨xs, e⟩, h⟩⟩
def StK (R : It → Hp → Prop) : VK := fun v H1 => ∃ x, v = .str x ∧ R (Its x) H1
theorem i_strE (h : tl σ H (StK R)) : iStr tl σ H R := h
theorem i_strv {z : Str} (h : R (Its z) H) : StK R (.str z) H := ⟨z, rfl, h⟩
theorem walk_rng0 {n : Nat} : Walk (Itr 0 n) n (fun _ => True) (YFn fun i => .int (i : Nat)) :=
  walk_range.mono (fun _ h => h) fun i H x H' _ _ y => ⟨y.1, by rw [y.2]; show V.int (0 + (i : Int)) = V.int (i : Int); rw [Int.zero_add]⟩
end
/-! ## comprehensions -/
section
variable {wi : TI} {g : TG} {tt : TT} {te tk tv : TE} {vs : List Nat} {σ σw : L2.St} {H H1 : Hp} {Q : VK} {J : It} {n : Nat} {G : Hp → Prop} {Y : Nat → Hp → V → Hp → Prop}
def LcP (F : Addr → Nat → List V → Hp → Prop) (D : Addr) (i : Nat) (H : Hp) : Prop := ∃ acc, H D = some (.lst acc) ∧ acc.length ≤ i ∧ F D i acc H
def LcY (F : Addr → Nat → List V → Hp → Prop) (D : Addr) (i : Nat) : VK := fun y H4 => ∃ acc, H4 D = some (.lst acc) ∧ acc.length < sizeLine ∧ LcP F D (i + 1) (upd H4 D (.lst (acc ++ [y])))
def LcK (g : TG) (tt : TT) (te : TE) (vs : List Nat) (σ : L2.St) (Q : VK) : It → Hp → Prop := fun J H1 => ∀ D, H1 D = none → ∃ W : Nat → Nat → Hp → Prop, (∃ m, W 0 m (upd H1 D (.lst []))) ∧ ∀ i m H, W i m H →
    (J.stop i H ∧ Q (.ref D) H) ∨ (J.go i H ∧ ∃ Nx : Hp → Prop, (∀ H', Nx H' → ∃ m', m' < m ∧ W (i + 1) m' H') ∧ ∀ x H', J.yld i H x H' → g x (wipe σ vs) H' fun σ2 H2 => wipe σ2 vs = wipe σ vs ∧ tt σ2 H2 fun b H3 =>
      if b = true then te σ2 H3 fun y H4 => ∃ acc, H4 D = some (.lst acc) ∧ acc.length < sizeLine ∧ Nx (upd H4 D (.lst (acc ++ [y]))) else Nx H3)
theorem i_lc (h : wi σ H (LcK g tt te vs σ Q)) : tLc wi g tt te vs σ H Q := h
/-- F: what holds of the new list D, the turns, its items, the heap -/
theorem i_lcW (w : Walk J n G Y) (F : Addr → Nat → List V → Hp → Prop) (ew : wipe σ vs = σw)
    (h0 : ∀ D H', H1 D = none → Keep [] H1 H' → H' D = some (.lst []) → F D 0 [] H')
    (hG : ∀ D i acc H, i ≤ n → H1 D = none → H D = some (.lst acc) → F D i acc H → G H)
    (hs : ∀ D i x acc H H', i < n → H1 D = none → H D = some (.lst acc) → acc.length ≤ i → F D i acc H → Y i H x H' →
      g x σw H' fun σ2 H2 => wipe σ2 vs = σw ∧ tt σ2 H2 fun b H3 => if b = true then te σ2 H3 (LcY F D i) else LcP F D (i + 1) H3)
    (hd : ∀ D acc H, H1 D = none → H D = some (.lst acc) → acc.length ≤ n → F D n acc H → Q (.ref D) H) :
    LcK g tt te vs σ Q J H1 := by
  intro D hD
  subst ew
  refine lc_it w (LcP F D) ⟨[], upd_same, Nat.le_refl _, h0 D _ hD (Keep.new hD) upd_same⟩ (fun i H hi ⟨acc, e, _, f⟩ => hG D i acc H hi hD e f) (fun i x H H' hi ⟨acc, e, l, f⟩ y => ?_) fun H ⟨acc, e, l, f⟩ => hd D acc H hD e l f
  exact hs D i x acc H H' hi hD e l f y
theorem i_lcY {F : Addr → Nat → List V → Hp → Prop} {D : Addr} {i : Nat} {y : V} {acc : List V} (e : H D = some (.lst acc)) (l : acc.length ≤ i) (hi : i < 16000000)
    (h : ∀ H', Keep [D] H H' → H' D = some (.lst (acc ++ [y])) → F D (i + 1) (acc ++ [y]) H') : LcY F D i y H :=
  ⟨acc, e, sz' (by omega), acc ++ [y], upd_same, by simp; omega, h _ (Keep.put e trivial) upd_same⟩
theorem i_lcN {F : Addr → Nat → List V → Hp → Prop} {D : Addr} {i : Nat} {acc : List V} (e : H D = some (.lst acc)) (l : acc.length ≤ i) (h : F D (i + 1) acc H) : LcP F D (i + 1) H := ⟨acc, e, by omega, h⟩
theorem i_yes {QB : Bool → Hp → Prop} (h : QB true H) : tYes σ H QB := h
/-! ## dict comprehensions -/
def DcP (F : Addr → Nat → List (Key × V) → Hp → Prop) (D : Addr) (i : Nat) (H : Hp) : Prop := ∃ acc, H D = some (.dK acc) ∧ acc.length ≤ i ∧ F D i acc H
def DcY (F : Addr → Nat → List (Key × V) → Hp → Prop) (D : Addr) (i : Nat) (y : V) : VK := fun z H5 => ∃ kvs k, y = kV k ∧ H5 D = some (.dK kvs) ∧ kvs.length < sizeLine ∧ DcP F D (i + 1) (upd H5 D (.dK (putK kvs k z)))
def DcK (g : TG) (tt : TT) (tk tv : TE) (vs : List Nat) (σ : L2.St) (Q : VK) : It → Hp → Prop := fun J H1 => ∀ D, H1 D = none → ∃ W : Nat → Nat → Hp → Prop, (∃ m, W 0 m (upd H1 D (.dK []))) ∧ ∀ i m H, W i m H →
    (J.stop i H ∧ Q (.ref D) H) ∨ (J.go i H ∧ ∃ Nx : Hp → Prop, (∀ H', Nx H' → ∃ m', m' < m ∧ W (i + 1) m' H') ∧ ∀ x H', J.yld i H x H' → g x (wipe σ vs) H' fun σ2 H2 => wipe σ2 vs = wipe σ vs ∧ tt σ2 H2 fun b H3 =>
      if b = true then tk σ2 H3 fun y H4 => tv σ2 H4 fun z H5 => ∃ kvs k, y = kV k ∧ H5 D = some (.dK kvs) ∧ kvs.length < sizeLine ∧ Nx (upd H5 D (.dK (putK kvs k z))) else Nx H3)
theorem i_dc (h : wi σ H (DcK g tt tk tv vs σ Q)) : tDc wi g tt tk tv vs σ H Q := h
theorem i_dcW (w : Walk J n G Y) (F : Addr → Nat → List (Key × V) → Hp → Prop) (ew : wipe σ vs = σw)
    (h0 : ∀ D H', H1 D = none → Keep [] H1 H' → H' D = some (.dK []) → F D 0 [] H')
    (hG : ∀ D i acc H, i ≤ n → H1 D = none → H D = some (.dK acc) → F D i acc H → G H)
    (hs : ∀ D i x acc H H', i < n → H1 D = none → H D = some (.dK acc) → acc.length ≤ i → F D i acc H → Y i H x H' →
      g x σw H' fun σ2 H2 => wipe σ2 vs = σw ∧ tt σ2 H2 fun b H3 => if b = true then tk σ2 H3 fun y H4 => tv σ2 H4 (DcY F D i y) else DcP F D (i + 1) H3)
    (hd : ∀ D acc H, H1 D = none → H D = some (.dK acc) → acc.length ≤ n → F D n acc H → Q (.ref D) H) :
    DcK g tt tk tv vs σ Q J H1 := by
  intro D hD
  subst ew
  refine ⟨fun i m H => m = n - i ∧ i ≤ n ∧ DcP F D i H, ⟨n, by simp, Nat.zero_le _, [], upd_same, Nat.le_refl _, h0 D _ hD (Keep.new hD) upd_same⟩, ?_⟩
  rintro i m H ⟨rfl, hi, acc, e, l, f⟩
  have q := hG D i acc H hi hD e f
  by_cases hlt : i < n
  · exact .inr ⟨w.goes i H hlt q, DcP F D (i + 1), fun H' p' => ⟨n - (i + 1), by omega, rfl, hlt, p'⟩, fun x H' y => hs D i x acc H H' hlt hD e l f (w.yields i H x H' hlt q y)⟩
  · have ei : i = n := by omega
    subst ei
    exact .inl ⟨w.stops H q, hd D acc H hD e l f⟩
theorem i_dcY {F : Addr → Nat → List (Key × V) → Hp → Prop} {D : Addr} {i : Nat} {y z : V} {k : Key} {acc : List (Key × V)} (ey : y = kV k) (e : H D = some (.dK acc)) (l : acc.length ≤ i) (hi : i < 16000000)
    (h : ∀ H', Keep [D] H H' → H' D = some (.dK (putK acc k z)) → F D (i + 1) (putK acc k z) H') : DcY F D i y z H :=
  ⟨acc, k, ey, e, sz' (by omega), putK acc k z, upd_same, by have := length_putK acc k z; omega, h _ (Keep.put e trivial) upd_same⟩
end
/-- what stands ahead of a statement, told once -/
def tCut (t u : TS) : TS := fun D σ H => ∃ M : L2.St → Hp → Prop, t { D with nx := M } σ H ∧ ∀ σ' H', M σ' H' → u D σ' H'
theorem pss_cut {X : Cx} {st : Stmt} {rest : List Stmt} {t u : TS} (h1 : PS X st t) (h2 : PSs X rest u) : PSs X (st :: rest) (tCut t u) := by
  refine ⟨fun pins s σ H D I h => ?_⟩
  obtain ⟨Mid, hm, hu⟩ := h
  refine wpAny_execs_cons (thn (h1.run pins s σ H { D with nx := Mid } I hm) fun f s1 q => ?_)
  cases f with
  | next => obtain ⟨σ', H', I', q'⟩ := q; exact h2.run pins s1 σ' H' D I' (hu σ' H' q')
  | ret v => exact q
  | brk => exact q
  | cont => exact q
/-! ## for -/
section
variable {wi : TI} {g : TG} {tb : TS} {σ : L2.St} {H : Hp} {N B C : L2.St → Hp → Prop} {R : VK}
def ForK (g : TG) (tb : TS) (N : L2.St → Hp → Prop) (R : VK) (σ : L2.St) : It → Hp → Prop := fun J H1 => ∃ W : Nat → Nat → L2.St → Hp → Prop, (∃ m, W 0 m σ H1) ∧ ∀ i m σ H, W i m σ H →
  (J.stop i H ∧ N σ H) ∨ (J.go i H ∧ ∃ M : L2.St → Hp → Prop, (∀ σ' H', M σ' H' → ∃ m', m' < m ∧ W (i + 1) m' σ' H') ∧ ∀ x H', J.yld i H x H' → g x σ H' fun σ2 H2 => tb ⟨M, R, N, M⟩ σ2 H2)
theorem i_for (h : wi σ H (ForK g tb N R σ)) : tFor wi g tb ⟨N, R, B, C⟩ σ H := h
theorem i_forW {J : It} {n : Nat} {G : Hp → Prop} {Y : Nat → Hp → V → Hp → Prop} (w : Walk J n G Y) (F : Nat → L2.St → Hp → Prop) (h0 : F 0 σ H) (hG : ∀ i σ H, i ≤ n → F i σ H → G H)
    (hs : ∀ i x σ H H', i < n → F i σ H → Y i H x H' → g x σ H' fun σ2 H2 => tb ⟨F (i + 1), R, N, F (i + 1)⟩ σ2 H2) (hd : ∀ σ H, F n σ H → N σ H) : ForK g tb N R σ J H :=
  for_it (D := ⟨N, R, fun _ _ => False, fun _ _ => False⟩) w F h0 hG hs hd
/-- while: F what holds with m turns left at most -/
def WhK (tb : TS) (N : L2.St → Hp → Prop) (R : VK) (F : Nat → L2.St → Hp → Prop) (m : Nat) (σ : L2.St) (H1 : Hp) : Prop :=
  ∃ M : L2.St → Hp → Prop, (∀ σ' H', M σ' H' → ∃ m', m' < m ∧ F m' σ' H') ∧ tb ⟨M, R, N, M⟩ σ H1
theorem i_whileW {c : TT} (F : Nat → L2.St → Hp → Prop) (m0 : Nat) (h0 : F m0 σ H)
    (hs : ∀ m σ H, F m σ H → c σ H fun b H1 => if b = true then WhK tb N R F m σ H1 else N σ H1) : tWhile c tb ⟨N, R, B, C⟩ σ H := ⟨F, ⟨m0, h0⟩, hs⟩
theorem i_wh {F : Nat → L2.St → Hp → Prop} {m : Nat} (h : tb ⟨fun σ' H' => ∃ m', m' < m ∧ F m' σ' H', R, N, fun σ' H' => ∃ m', m' < m ∧ F m' σ' H'⟩ σ H) : WhK tb N R F m σ H := ⟨_, fun _ _ z => z, h⟩
/-- a, b, .. = an item -/
theorem i_unT {K : PySem.W.Frag} {n : Nat} {t : TGs} {a : Addr} {xs : List V} {Q : L2.St → Hp → Prop} (e : SqT K H a xs) (l : xs.length = n) (h : t xs σ H Q) : gUn K n t (.ref a) σ H Q := ⟨a, xs, rfl, .inl e, l, h⟩
theorem i_unL {K : PySem.W.Frag} {n : Nat} {t : TGs} {a : Addr} {xs : List V} {Q : L2.St → Hp → Prop} (e : SqL K H a xs) (l : xs.length = n) (h : t xs σ H Q) : gUn K n t (.ref a) σ H Q := ⟨a, xs, rfl, .inr e, l, h⟩
theorem i_gc {t : TG} {u : TGs} {v : V} {r : List V} {Q : L2.St → Hp → Prop} (h : t v σ H fun σ' H' => u r σ' H' Q) : gCons t u (v :: r) σ H Q := ⟨v, r, rfl, h⟩
theorem i_gnil {Q : L2.St → Hp → Prop} (h : Q σ H) : gNil [] σ H Q := ⟨rfl, h⟩
theorem i_gsub {to ti : TE} {t : TSet} {v : V} {Q : L2.St → Hp → Prop} (h : to σ H fun o H1 => ti σ H1 fun i H2 => t o i v H2 fun H3 => Q σ H3) : gSub to ti t v σ H Q := h
theorem i_cut {t u : TS} (M : L2.St → Hp → Prop) (h : t ⟨M, R, B, C⟩ σ H) (k : ∀ σ' H', M σ' H' → u ⟨N, R, B, C⟩ σ' H') : tCut t u ⟨N, R, B, C⟩ σ H := ⟨M, h, k⟩
end
/-! ## {k: v, ..} -/
section
variable {K : PySem.W.Frag} {σ : L2.St} {H : Hp} {Q : VK} {p : Addr} {ps : List (V × V)}
def DispK (p : Addr) (Q : VK) : List (V × V) → Hp → Prop := fun ps H2 => H2 p = some (.dK []) ∧ ∃ kvs : List (Key × V), ps = kvs.map (fun kv => (kV kv.1, kv.2)) ∧ kvs.length ≤ 15 ∧ Q (.ref p) (upd H2 p (.dK (mergeK [] kvs)))
theorem i_disp {trs : List (TE × TE)} (h : ∀ p H1, H p = none → Keep [] H H1 → H1 p = some (.dK []) → tPairs trs σ H1 (DispK p Q)) : tDisp trs σ H Q := fun p hp => h p _ hp (Keep.new hp) upd_same
theorem i_dispK (kvs : List (Key × V)) (e : H p = some (.dK [])) (ek : ps = kvs.map (fun kv => (kV kv.1, kv.2))) (l : kvs.length ≤ 15) (h : ∀ H', Keep [p] H H' → H' p = some (.dK (mergeK [] kvs)) → Q (.ref p) H') : DispK p Q ps H :=
  ⟨e, kvs, ek, l, h _ (Keep.put e trivial) upd_same⟩
theorem i_pnil {QP : List (V × V) → Hp → Prop} (h : QP [] H) : tPairs [] σ H QP := h
theorem i_pcons {QP : List (V × V) → Hp → Prop} {tk tv : TE} {r : List (TE × TE)} (h : tk σ H fun k H1 => tv σ H1 fun v H2 => tPairs r σ H2 fun ps H3 => QP ((k, v) :: ps) H3) : tPairs ((tk, tv) :: r) σ H QP := h
theorem i_tyL {a : Addr} {xs : List V} {P : Prop} (e : SqL K H a xs) (h : P) : tyV K "list" (.ref a) H ∧ P := ⟨.inl ⟨rfl, xs, e⟩, h⟩
end
/-! ## texts that are glued -/
def rJoin (K : PySem.W.Frag) : V → List V → Hp → VK → Prop := fun x xs H Q => ∃ a p, ∃ ys : List Str, x = .str a ∧ xs = [.ref p] ∧ (SqL K H p (ys.map V.str) ∨ SqT K H p (ys.map V.str)) ∧ (ys.map (·.length)).sum + ys.length * a.length ≤ 16777216 ∧ Q (.str (PySem.Txt.join a ys)) H
theorem k_join {X : Cx} (K : PySem.W.Frag) (ek : X.K = K) {o e : Expr} {to te : TE} {apos pos : Pos} (ho : PE X o to) (he : PE X e te) (hs : starEach [e] X.env = [(false, eval e X.env)] := by rfl) (hbase : attributeBase o "join" X.env (eval o X.env) = eval o X.env := by rfl) (hline : (apos.endLine == pos.line) = true := by rfl) :
    PE X (.Call (.Attribute o "join" apos) [e] [] pos) (tM1 (rJoin K) to te) := by
  subst ek
  exact pe_join ho he hs hbase hline
theorem i_m1 {r : V → List V → Hp → VK → Prop} {to te : TE} {σ : L2.St} {H : Hp} {Q : VK} (h : to σ H fun x H1 => (∃ a, x = .str a) ∧ te σ H1 fun y H2 => r x [y] H2 Q) : tM1 r to te σ H Q := h
end Tk
namespace Tk
open PySem PySem.Spec PyProof.Rows L2
/-! ## isinstance of plain values -/
section
variable {K : PySem.W.Frag} {H : Hp} {Q : VK}
theorem ty_list {a : Addr} {xs : List V} (e : SqL K H a xs) : TyX K H (.ref a) (.type "list") := by
  rcases e with (e | ⟨ob, e⟩) | ⟨o, its, n, h1, h2, _⟩
  · exact .base (.lst e)
  · exact .base (.frz e)
  · exact .kList h1 h2
theorem ty_tup {a : Addr} {xs : List V} (e : SqT K H a xs) : TyX K H (.ref a) (.type "tuple") := by
  rcases e with (e | ⟨ob, e⟩) | ⟨o, its, n, h1, h2, _⟩
  · exact .base (.tup e)
  · exact .fTuple e
  · exact .kTuple h1 h2
def IsiK (K : PySem.W.Frag) (xs : List V) (Q : VK) (H : Hp) : Prop := rIsi K xs H Q
theorem i_isi {xs : List V} (h : IsiK K xs Q H) : rIsi K xs H Q := h
theorem isi_of {x : V} {t : Value} {T : String} {b : Bool} (ty : TyX K H x t) (e : PySem.W.kitOne K t (.type T) = some b) (h : Q (.bl b) H) : IsiK K [x, .ty T] Q H := ⟨x, .ty T, t, .type T, b, rfl, .ty T, ty, e, h⟩
theorem isi_I_int {n : Int} (h : Q (.bl true) H) : IsiK K [(.int n), .ty "int"] Q H := isi_of (.base (.int n)) rfl h
theorem isi_I_bool {n : Int} (h : Q (.bl false) H) : IsiK K [(.int n), .ty "bool"] Q H := isi_of (.base (.int n)) rfl h
theorem isi_I_str {n : Int} (h : Q (.bl false) H) : IsiK K [(.int n), .ty "str"] Q H := isi_of (.base (.int n)) rfl h
theorem isi_I_list {n : Int} (h : Q (.bl false) H) : IsiK K [(.int n), .ty "list"] Q H := isi_of (.base (.int n)) rfl h
theorem isi_I_tuple {n : Int} (h : Q (.bl false) H) : IsiK K [(.int n), .ty "tuple"] Q H := isi_of (.base (.int n)) rfl h
theorem isi_B_int {c : Bool} (h : Q (.bl true) H) : IsiK K [(.bl c), .ty "int"] Q H := isi_of (.base (.bl c)) rfl h
theorem isi_B_bool {c : Bool} (h : Q (.bl true) H) : IsiK K [(.bl c), .ty "bool"] Q H := isi_of (.base (.bl c)) rfl h
theorem isi_B_str {c : Bool} (h : Q (.bl false) H) : IsiK K [(.bl c), .ty "str"] Q H := isi_of (.base (.bl c)) rfl h
theorem isi_B_list {c : Bool} (h : Q (.bl false) H) : IsiK K [(.bl c), .ty "list"] Q H := isi_of (.base (.bl c)) rfl h
theorem isi_B_tuple {c : Bool} (h : Q (.bl false) H) : IsiK K [(.bl c), .ty "tuple"] Q H := isi_of (.base (.bl c)) rfl h
theorem isi_S_int {z : Str} (h : Q (.bl false) H) : IsiK K [(.str z), .ty "int"] Q H := isi_of (.base (.str z)) rfl h
theorem isi_S_bool {z : Str} (h : Q (.bl false) H) : IsiK K [(.str z), .ty "bool"] Q H := isi_of (.base (.str z)) rfl h
theorem isi_S_str {z : Str} (h : Q (.bl true) H) : IsiK K [(.str z), .ty "str"] Q H := isi_of (.base (.str z)) rfl h
theorem isi_S_list {z : Str} (h : Q (.bl false) H) : IsiK K [(.str z), .ty "list"] Q H := isi_of (.base (.str z)) rfl h
theorem isi_S_tuple {z : Str} (h : Q (.bl false) H) : IsiK K [(.str z), .ty "tuple"] Q H := isi_of (.base (.str z)) rfl h
theorem isi_N_int  (h : Q (.bl false) H) : IsiK K [.non, .ty "int"] Q H := isi_of (.base .non) rfl h
theorem isi_N_bool  (h : Q (.bl false) H) : IsiK K [.non, .ty "bool"] Q H := isi_of (.base .non) rfl h
theorem isi_N_str  (h : Q (.bl false) H) : IsiK K [.non, .ty "str"] Q H := isi_of (.base .non) rfl h
theorem isi_N_list  (h : Q (.bl false) H) : IsiK K [.non, .ty "list"] Q H := isi_of (.base .non) rfl h
theorem isi_N_tuple  (h : Q (.bl false) H) : IsiK K [.non, .ty "tuple"] Q H := isi_of (.base .non) rfl h
theorem isi_L_int {a : Addr} {xs : List V} (e : SqL K H a xs) (h : Q (.bl false) H) : IsiK K [(.ref a), .ty "int"] Q H := isi_of (ty_list e) rfl h
theorem isi_L_bool {a : Addr} {xs : List V} (e : SqL K H a xs) (h : Q (.bl false) H) : IsiK K [(.ref a), .ty "bool"] Q H := isi_of (ty_list e) rfl h
theorem isi_L_str {a : Addr} {xs : List V} (e : SqL K H a xs) (h : Q (.bl false) H) : IsiK K [(.ref a), .ty "str"] Q H := isi_of (ty_list e) rfl h
theorem isi_L_list {a : Addr} {xs : List V} (e : SqL K H a xs) (h : Q (.bl true) H) : IsiK K [(.ref a), .ty "list"] Q H := isi_of (ty_list e) rfl h
theorem isi_L_tuple {a : Addr} {xs : List V} (e : SqL K H a xs) (h : Q (.bl false) H) : IsiK K [(.ref a), .ty "tuple"] Q H := isi_of (ty_list e) rfl h
theorem isi_T_int {a : Addr} {xs : List V} (e : SqT K H a xs) (h : Q (.bl false) H) : IsiK K [(.ref a), .ty "int"] Q H := isi_of (ty_tup e) rfl h
theorem isi_T_bool {a : Addr} {xs : List V} (e : SqT K H a xs) (h : Q (.bl false) H) : IsiK K [(.ref a), .ty "bool"] Q H := isi_of (ty_tup e) rfl h
theorem isi_T_str {a : Addr} {xs : List V} (e : SqT K H a xs) (h : Q (.bl false) H) : IsiK K [(.ref a), .ty "str"] Q H := isi_of (ty_tup e) rfl h
theorem isi_T_list {a : Addr} {xs : List V} (e : SqT K H a xs) (h : Q (.bl false) H) : IsiK K [(.ref a), .ty "list"] Q H := isi_of (ty_tup e) rfl h
theorem isi_T_tuple {a : Addr} {xs : List V} (e : SqT K H a xs) (h : Q (.bl true) H) : IsiK K [(.ref a), .ty "tuple"] Q H := isi_of (ty_tup e) rfl h
end
end Tk
namespace Tk
open PySem PySem.Spec PyProof.Rows L2
section
variable {K : PySem.W.Frag} {σ : L2.St} {H : Hp} {Q : VK} {N B C' : L2.St → Hp → Prop} {R : VK} {x y : V}
/-! ## a list or a tuple; the list at none of av -/
def SqB (K : PySem.W.Frag) (av : List Addr) (H : Hp) (a : Addr) (xs : List V) : Prop := SqT K H a xs ∨ (H a = some (.lst xs) ∧ a ∉ av)
theorem SqB.keep {m av : List Addr} {H' : Hp} {a : Addr} {xs : List V} (k : Keep m H H') (hm : ∀ b ∈ m, b ∈ av) (h : SqB K av H a xs) : SqB K av H' a xs := by
  rcases h with h | ⟨h, n⟩
  · exact .inl (k.sqT h)
  · exact .inr ⟨k.at h fun z => n (hm a z), n⟩
theorem SqB.wk {av av' : List Addr} {a : Addr} {xs : List V} (hm : ∀ b ∈ av', b ∈ av) (h : SqB K av H a xs) : SqB K av' H a xs := by
  rcases h with h | ⟨h, n⟩
  · exact .inl h
  · exact .inr ⟨h, fun z => n (hm a z)⟩
theorem i_ixB {av : List Addr} {a : Addr} {xs : List V} {n : Int} {v : V} (e : SqB K av H a xs) (he : atI xs n = some v) (h : Q v H) : uIx K (.ref a) (.int n) H Q := by
  rcases e with e | ⟨e, _⟩
  · exact i_ixT e he h
  · exact i_ixL (SqL.of e) he h
theorem i_lenB {av : List Addr} {a : Addr} {xs : List V} (e : SqB K av H a xs) (h : Q (.int xs.length) H) : uLen K [.ref a] H Q := by
  rcases e with e | ⟨e, _⟩
  · exact i_lenT e h
  · exact i_lenL (SqL.of e) h
theorem i_unB {av : List Addr} {n : Nat} {t : TGs} {a : Addr} {xs : List V} {Q : L2.St → Hp → Prop} (e : SqB K av H a xs) (l : xs.length = n) (h : t xs σ H Q) : gUn K n t (.ref a) σ H Q := by
  rcases e with e | ⟨e, _⟩
  · exact i_unT e l h
  · exact i_unL (SqL.of e) l h
theorem i_tupB {av : List Addr} {a : Addr} {xs : List V} (e : SqB K av H a xs) (h : ∀ p H', Keep [] H H' → SqT K H' p xs → Q (.ref p) H') : uTup K [.ref a] H Q := by
  rcases e with e | ⟨e, _⟩
  · exact i_tupT e (h a H Keep.rfl' e)
  · exact i_tupL (SqL.of e) fun p H' _ k e' => h p H' k (SqT.of e')
theorem i_sqB {av : List Addr} {R : It → Hp → Prop} {a : Addr} {xs : List V} (e : SqB K av H a xs) (h : ∀ J G, Walk J xs.length G (YAt xs) → (∀ m H', Keep m H H' → (∀ b ∈ m, b ∈ av) → G H') → R J H) : SqK K R (.ref a) H := by
  rcases e with e | ⟨e, n⟩
  · exact i_sqT e (h _ _ walk_tup fun m H' k _ => k.sqT e)
  · exact i_sqL (SqL.of e) (h _ _ walk_list fun m H' k hm => SqL.of (k.at e fun z => n (hm a z)))
theorem i_enB {av : List Addr} {R : It → Hp → Prop} {a : Addr} {xs : List V} (e : SqB K av H a xs) (h : ∀ J G, Walk J xs.length G (YPair (fun i => some (.int (i : Nat))) (fun i => xs[i]?)) → (∀ m H', Keep m H H' → (∀ b ∈ m, b ∈ av) → G H') → R J H) : EnK K R [.ref a] H := by
  rcases e with e | ⟨e, n⟩
  · exact i_enT e (h _ _ walk_eu fun m H' k _ => k.sqT e)
  · exact i_enL (SqL.of e) (h _ _ walk_enum fun m H' k hm => SqL.of (k.at e fun z => n (hm a z)))
/-! ## a sign in a text -/
theorem i_inSg {c : Nat} {z : Str} (h : Q (.bl (decide (c ∈ z.cps.toList))) H) : uIn K (.str ⟨#[c]⟩) (.str z) H Q := .inr (.inr ⟨c, z, rfl, rfl, h⟩)
/-! ## fields -/
def SfK (K : PySem.W.Frag) (f : Str) (y : V) (N : L2.St → Hp → Prop) (σ : L2.St) : VK := fun x H2 => ∃ a C dx fs, x = .ref a ∧ H2 a = some (.ins C dx fs) ∧ Cls K C ∧ NoAttr K C f ∧ fs.length < 1000 ∧ N σ (upd H2 a (.ins C dx (putF f y fs)))
theorem i_sfld {ta tv : TE} {f : Str} (h : tv σ H fun y H1 => ta σ H1 (SfK K f y N σ)) : sFld K ta tv f ⟨N, R, B, C'⟩ σ H := h
theorem i_sfldv {f : Str} {a C dx : Addr} {fs fs' : List (Str × V)} (e : H a = some (.ins C dx fs)) (c : Cls K C) (n : NoAttr K C f) (l : fs.length < 1000) (ef : putF f y fs = fs') (h : ∀ H', Keep [a] H H' → H' a = some (.ins C dx fs') → N σ H') : SfK K f y N σ (.ref a) H := by
  subst ef
  exact ⟨a, C, dx, fs, rfl, e, c, n, l, h _ (Keep.put e trivial) upd_same⟩
theorem pf_nil {f : Str} {v : V} : putF f v [] = [(f, v)] := rfl
theorem pf_skip' {f g : Str} {v x : V} {r r' : List (Str × V)} (h : (g == f) = false) (e : putF f v r = r') : putF f v ((g, x) :: r) = (g, x) :: r' := by rw [pf_skip h, e]
/-! ## a new object -/
def MkK (C : Addr) (sp : Sp) (dvs : List V) (E : XK) (Q : VK) : List V → Hp → Prop := fun vs H1 => ∀ x dx, H1 x = none → H1 dx = none → dx ≠ x →
  sp (.ref x :: (vs ++ dvs)) (upd (upd H1 dx (.own x)) x (.ins C dx [])) (fun v H2 => v = .non ∧ Q (.ref x) H2) E
theorem i_make {C : Addr} {sp : Sp} {dvs : List V} {E : XK} {t : TA} (h : t σ H (MkK C sp dvs E Q)) : tMake C sp dvs E t σ H Q := h
theorem i_mk {C : Addr} {sp : Sp} {dvs vs : List V} {E : XK} (h : ∀ x dx H', H x = none → Keep [] H H' → H' x = some (.ins C dx []) → sp (.ref x :: (vs ++ dvs)) H' (fun v H2 => v = .non ∧ Q (.ref x) H2) E) : MkK C sp dvs E Q vs H := by
  intro x dx hx hd hn
  have h1 : upd H dx (.own x) x = none := by rw [upd_ne (Ne.symm hn)]; exact hx
  exact h x dx _ hx ((Keep.new hd).trans (Keep.new h1)) upd_same
theorem i_dnewK (h : ∀ p H', H p = none → Keep [] H H' → H' p = some (.dK []) → Q (.ref p) H') : tDNewK σ H Q := new_of (P := fun p H' => Q (.ref p) H') h
theorem i_dnewT (h : ∀ p H', H p = none → Keep [] H H' → H' p = some (.dT []) → Q (.ref p) H') : tDNewT σ H Q := new_of (P := fun p H' => Q (.ref p) H') h
theorem i_ext {l b : Addr} {xs zs : List V} (e : H l = some (.lst xs)) (eb : H b = some (.lst zs)) (hz : xs.length + zs.length ≤ sizeLine) (h : ∀ H', Keep [l] H H' → H' l = some (.lst (xs ++ zs)) → Q .non H') : rExtend (.ref l) [.ref b] H Q :=
  ⟨l, b, xs, zs, rfl, rfl, e, eb, hz, h _ (Keep.put e trivial) upd_same⟩
/-! ## d.get -/
theorem i_dget1 {td ty : TE} (h : td σ H fun x H1 => ∃ a, x = .ref a ∧ IsD H1 a ∧ ty σ H1 fun y H2 => ∃ o, DGet H2 a y o ∧ Q (o.getD .non) H2) : tDGet1 td ty σ H Q := h
theorem i_dget2 {td ty tx : TE} (h : td σ H fun x H1 => ∃ a, x = .ref a ∧ IsD H1 a ∧ ty σ H1 fun y H2 => tx σ H2 fun z H3 => ∃ o, DGet H3 a y o ∧ Q (o.getD z) H3) : tDGet2 td ty tx σ H Q := h
theorem i_isD {a : Addr} {kvs : List (Key × V)} {D : Addr → Prop} (e : H a = some (.dK kvs)) (h : D a) : ∃ a', V.ref a = .ref a' ∧ IsD H a' ∧ D a' := ⟨a, rfl, .inl ⟨kvs, .inl e⟩, h⟩
theorem i_getK {a : Addr} {kvs : List (Key × V)} {k : Key} {R : Option V → Prop} (e : H a = some (.dK kvs)) (ek : kV k = y) (h : R (valV kvs k)) : ∃ o, DGet H a y o ∧ R o := ⟨_, by rw [← ek]; exact DGet.k e, h⟩
/-- the pair that enumerate lays -/
theorem ypair {xs ys : Nat → Option V} {i : Nat} {v : V} {H' : Hp} (h : YPair xs ys i H v H') : ∃ T x y, v = .ref T ∧ H T = none ∧ Keep [] H H' ∧ H' T = some (.tup [x, y]) ∧ xs i = some x ∧ ys i = some y := by
  obtain ⟨T, x, y, h1, h2, h3, h4, h5⟩ := h
  subst h3
  exact ⟨T, x, y, h1, h2, Keep.new h2, upd_same, h4, h5⟩
/-! ## xs[::-1] -/
theorem k_revL {X : Cx} (K : PySem.W.Frag) (ek : X.K = K) {e : Expr} {te : TE} {k : Nat} {p1 p2 p3 pos : Pos} (he : PE X e te) : PE X (.Subscript e (.Slice none none (some (.UnaryOp .USub (.Constant (.int 1) k p1) p2)) p3) pos) (tRevL K te) := by subst ek; exact pe_revL he
def RevK (K : PySem.W.Frag) (Q : VK) : VK := fun x H1 => ∃ a xs, x = .ref a ∧ SqL K H1 a xs ∧ ∀ p, H1 p = none → Q (.ref p) (upd H1 p (.lst xs.reverse))
theorem i_revL {te : TE} (h : te σ H (RevK K Q)) : tRevL K te σ H Q := h
theorem i_rev {a : Addr} {xs : List V} (e : SqL K H a xs) (h : ∀ p H', H p = none → Keep [] H H' → H' p = some (.lst xs.reverse) → Q (.ref p) H') : RevK K Q (.ref a) H :=
  ⟨a, xs, rfl, e, new_of (P := fun p H' => Q (.ref p) H') h⟩
/-- x += e, numbers -/
def AugK (f : Int → Int → Int) (N : L2.St → Hp → Prop) (σ : L2.St) (i : Nat) (n : Int) : VK := fun y H1 => ∃ j, y = .int j ∧ N (σ.set i (some (.int (f n j)))) H1
theorem i_aug {i : Nat} {te : TE} {f : Int → Int → Int} {n : Int} (e : σ[i]? = some (some (.int n))) (h : te σ H (AugK f N σ i n)) : tAug i te (ipI f) ⟨N, R, B, C'⟩ σ H := by
  refine ⟨.int n, e, ?_⟩
  have g : (fun y H1 => ipI f (.int n) y H1 fun z H2 => N (σ.set i (some z)) H2) = AugK f N σ i n := by
    funext y H1
    apply propext
    constructor
    · rintro ⟨a, b, e1, e2, q⟩
      injection e1 with e1
      subst e1
      exact ⟨b, e2, q⟩
    · rintro ⟨b, e2, q⟩
      exact ⟨n, b, rfl, e2, q⟩
  show te σ H (fun y H1 => ipI f (.int n) y H1 fun z H2 => N (σ.set i (some z)) H2)
  rw [g]
  exact h
theorem i_augv {i : Nat} {f : Int → Int → Int} {n m : Int} {σ' : L2.St} (e : σ.set i (some (.int (f n m))) = σ') (h : N σ' H) : AugK f N σ i n (.int m) H := ⟨m, rfl, by rw [e]; exact h⟩
/-- a test whose answer is c -/
theorem i_iteE {b c : Bool} {A B : Prop} (e : b = c) (h1 : c = true → A) (h2 : c = false → B) : if b = true then A else B := by subst e; exact i_iteB h1 h2
theorem i_len {v w : Int} (e : v = w) (h : Q (.int w) H) : Q (.int v) H := by rw [e]; exact h
end
end Tk
namespace Tk
open PySem PySem.Spec PyProof.Rows L2
/-! ## sorted(d), the keys ints, any number of them -/
section
variable {X : Cx}
def rSrtD : List V → Hp → VK → Prop := fun xs H Q => ∃ (a : Addr) (kvs : List (Key × V)) (ks : List Int), xs = [.ref a] ∧ H a = some (.dK kvs) ∧ kvs.map (·.1) = ks.map Sum.inl ∧
  ∀ (ys : List Int) (p : Addr), ys.Perm ks → ys.Pairwise (· ≤ ·) → H p = none → Q (.ref p) (upd H p (.lst (ys.map V.int)))
theorem c_srtD (hc : X.calm = true) : CallR X (.builtin "sorted") rSrtD := by
  rintro pn st σ0 H0 xs us Q0 J r ⟨a, kvs, ks, ex, hd, hks, q⟩
  subst ex
  obtain ⟨u, eu, rx⟩ := vals1 r
  subst eu; cases rx
  obtain ⟨z, lo, vs, rel, dd⟩ := dk_rd J.hok (show Rd H0 a (.dK kvs) from .inl hd)
  obtain ⟨ep, hat⟩ := dd.dictAt
  have hk : vs.map (·.1) = ks.map Sum.inl := rel.keys.symm.trans hks
  have hl : vs.length = ks.length := by have e := congrArg List.length hk; simpa using e
  have hz : vs.length ≤ sizeLine := by have := rel.length; omega
  refine Calls.call_function_entry kind_sorted plain_sorted entry_sorted (args_sorted1 _) ?_; unfold Builtin.«sorted»
  refine wpAny_bind (m := checkCount "sorted" 1 1 _) (wpAny_pure ?_); refine wpAny_bind (PySem.W.kdu_collect (A := X.A.in1) (PySem.W.kdl_dict (knd := mixKind X.prog X.w) (kvs := vs) (ep := ep) lo) (J.ok.hd hc) hat hz fun h' tk acc hk' hacc => ?_)
  have hal : acc.toList.length = ks.length := by rw [Array.length_toList, hacc.1]; exact hl
  have hS : IntsAre acc.toList ks := by
    refine ints_each hal fun j v e => ?_
    obtain ⟨k, x, e1, e2⟩ := hacc.2 j v (by rw [← Array.getElem?_toList]; exact e)
    have e3 : (vs.map (·.1))[j]? = some k := by rw [List.getElem?_map, e1]; exact rfl
    rw [hk, List.getElem?_map] at e3
    rcases e4 : ks[j]? with _ | y
    · rw [e4] at e3; cases e3
    · rw [e4] at e3
      have e5 : Sum.inl y = k := by injection e3
      subst e5
      rcases keyIs_shape (show keyIs (Sum.inl y) v = true from e2) with ⟨i, t, ek, ev⟩ | ⟨i, t, ek, ev⟩ <;> cases ek
      exact ⟨y, t, rfl, ev⟩
  have J1 : Inv X pn σ0 H0 { st with heap := h', toks := tk } := J.kept hk'
  have hn : acc.toList.length ≤ sizeLine := by rw [hal, ← hl]; exact hz
  refine wpAny_bind (wpAny_newList ?_ hn)
  have hoL : (h'.push (seqObj "list" acc.toList.toArray 0)).get? h'.objs.size = some (seqObj "list" acc.toList.toArray 0) := by exact Heap.get?_push_size _ rfl
  show wpAny _ _ _ _ _ { st with heap := h'.push (seqObj "list" acc.toList.toArray 0), toks := tk }
  refine wpAny_bind (wpAny_holding (wpAny_call_entry slot_list_sort ⟨_, hoL, rfl⟩ entry_list_sort (SrtO.list_sort_ord (s := { st with heap := h'.push (seqObj "list" acc.toList.toArray 0), toks := tk }) SrtO.swo_int hoL hn
    (fun h2 => SrtO.ints_sortable hS h2) fun out h1 h2 => ⟨.none, rfl, ?_⟩) (args_list_sort _)))
  obtain ⟨k1, k2, k3⟩ := SrtO.ints_out hS h1 h2
  obtain ⟨e', he'⟩ := sortedHeap_at (vs := acc.toList) (out := out.toArray) hoL
  have hlen : ((out.map SrtO.iv).map V.int).length ≤ sizeLine := by rw [List.length_map, k2.length_eq, ← hal]; exact hn
  refine wpAny_pure ⟨_, rfl, .ref h'.objs.size, upd H0 h'.objs.size (.lst ((out.map SrtO.iv).map V.int)), J1.laid (t' := tk) (fun b u e => ?_) (Nat.le_refl _)
    (show ObjOk X.prog X.w _ _ _ (.lst _) from ⟨hlen, out, e', vals_of_ints k1, he'⟩), rfl, q _ _ k2 k3 (J1.hok.fresh (Nat.le_refl _))⟩
  have hb : b < h'.objs.size := by exact Heap.lt_size e
  rw [sortedHeap_old (Nat.ne_of_lt hb) (by rw [size_push']; exact Nat.lt_of_lt_of_le hb (Nat.le_succ _))]
  exact Heap.get?_push_of_some _ e
def uSrt (K : PySem.W.Frag) : List V → Hp → VK → Prop := fun xs H Q => rSortedI K xs H Q ∨ rSrtD xs H Q
theorem k_sorted (K : PySem.W.Frag) (ek : X.K = K) (hc : X.calm = true) : CallR X (.builtin "sorted") (uSrt K) := by subst ek; exact cr_sortedI.or (c_srtD hc)
end
section
variable {K : PySem.W.Frag} {σ : L2.St} {H : Hp} {Q : VK} {N B C' : L2.St → Hp → Prop} {R : VK} {x y : V}
theorem i_srtD {a : Addr} {kvs : List (Key × V)} (ks : List Int) (e : H a = some (.dK kvs)) (ek : kvs.map (·.1) = ks.map Sum.inl)
    (h : ∀ (ys : List Int) (p : Addr) (H' : Hp), ys.Perm ks → ys.Pairwise (· ≤ ·) → H p = none → Keep [] H H' → H' p = some (.lst (ys.map V.int)) → Q (.ref p) H') : uSrt K [.ref a] H Q :=
  .inr ⟨a, kvs, ks, rfl, e, ek, fun ys p h1 h2 hp => h ys p _ h1 h2 hp (Keep.new hp) upd_same⟩
theorem i_srtI {a : Addr} {ks : List Int} (e : SqL K H a (ks.map V.int))
    (h : ∀ (ys : List Int) (p : Addr) (H' : Hp), ys.Perm ks → ys.Pairwise (· ≤ ·) → H p = none → Keep [] H H' → H' p = some (.lst (ys.map V.int)) → Q (.ref p) H') : uSrt K [.ref a] H Q :=
  .inl ⟨a, ks, rfl, e, fun ys p h1 h2 hp => h ys p _ h1 h2 hp (Keep.new hp) upd_same⟩
theorem i_pop {l : Addr} {xs : List V} (e : H l = some (.lst (xs ++ [y]))) (h : ∀ H', Keep [l] H H' → H' l = some (.lst xs) → Q y H') : rPop (.ref l) [] H Q :=
  ⟨l, xs ++ [y], y, rfl, rfl, e, by simp, h _ (Keep.put e trivial) (by rw [upd_same, List.dropLast_concat])⟩
theorem i_sum {a : Addr} {ns : List Int} (e : SqL K H a (ns.map V.int)) (h : Q (.int ns.sum) H) : rSum K [.ref a] H Q := ⟨a, ns, rfl, e, h⟩
def minD (f : Int → List Int → Int) (y : V) : List Int → V
  | [] => y
  | n :: r => .int (f n r)
theorem i_minD {a : Addr} {ns : List Int} {f : Int → List Int → Int} (e : SqL K H a (ns.map V.int)) (h : Q (minD f y ns) H) : rMaxD K f [.ref a] [y] H Q := ⟨a, ns, y, rfl, rfl, e, by cases ns <;> exact h⟩
theorem Al.rget {α β : Type} {R : α → β → Prop} {as : List α} {bs : List β} (h : Al R as bs) : ∀ {i : Nat} {b : β}, bs[i]? = some b → ∃ a, as[i]? = some a ∧ R a b := by
  induction h with
  | nil => intro i a e; simp at e
  | cons r _ ih =>
    intro i a e
    cases i with
    | zero => simp at e; subst e; exact ⟨_, rfl, r⟩
    | succ i => simp at e; obtain ⟨b, h1, h2⟩ := ih e; exact ⟨b, by simpa using h1, h2⟩
/-- truth of a list, a branch -/
theorem i_truLb {a : Addr} {xs : List V} {A B : Prop} (e : SqL K H a xs) (h1 : xs ≠ [] → A) (h2 : xs = [] → B) : ∃ k, TruV K (.ref a) H k ∧ if k = true then A else B := by
  refine i_truL e ?_
  cases xs with
  | nil => exact i_F (h2 rfl)
  | cons z zs => exact i_T (h1 (by simp))
end
end Tk
namespace Tk
open PySem PySem.Spec PyProof.Rows L2
/-! ## exceptions: classes of the program without a field -/
structure ExcT (K : PySem.W.Frag) (mg : Str → Option Value) (x : Str) (C : Addr) : Prop where
  g : mg x = some (.ref C)
  q : PySem.W.excIn K C [.type "ValueError", .type "Exception", .type "BaseException", .type "object"] "ValueError.__new__" = true
  k : PySem.W.keepIn K (.ref C) = true
  b : PySem.W.subIn K (.ref C) (.type "BaseException") = some true
  t : PySem.W.typeIn K (.ref C) = some (.type "type")
  e : PySem.W.exmOne K (.ref C) (.ref C) = some true
/-- an error is what a clause with its own class names -/
theorem exm_self {K : PySem.W.Frag} {S : Addr} (h1 : PySem.W.subIn K (.ref S) (.type "BaseException") = some true) (h2 : PySem.W.isClsIn K S = true) (h3 : PySem.W.typeIn K (.ref S) = some (.type "type")) (h4 : PySem.W.subIn K (.ref S) (.ref S) = some true) :
    PySem.W.exmOne K (.ref S) (.ref S) = some true := by
  have e1 : (PySem.W.subIn K (.ref S) (.type "BaseException") == some true) = true := by rw [h1] <;> rfl
  have e2 : ((PySem.W.clsIn K S).isSome && PySem.W.typeIn K (.ref S) == some (.type "type")) = true := by
    have h2' : (PySem.W.clsIn K S).isSome = true := h2
    rw [h2', h3] <;> rfl
  show (if (PySem.W.subIn K (.ref S) (.type "BaseException") == some true) = true then (if ((PySem.W.clsIn K S).isSome && PySem.W.typeIn K (.ref S) == some (.type "type")) = true then PySem.W.subIn K (.ref S) (.ref S) else none) else none) = some true
  rw [if_pos e1, if_pos e2]
  exact h4
section
variable {X : Cx} {C : Addr} {x : Str} {p pos pos' : Pos} {e : Expr} {es : List Expr} {t : TA} {k j : Nat} {ps : List Str} {sp : Sp} {E : XK} {W : WX}
theorem pmk0 (T : ExcT X.K X.mg x C) (hg : Gl X x) (hdb : (x == ("__debug__" : Str)) = false := by decide) : PMk X (.Call (.Name x p) [] [] pos) (fun _ H Q => Q (.ref C) none H) := by
  intro pins s σ H Q I h
  refine wpAny_Call_Name_kw (ld_glob I hg T.g ?_ hdb)
  refine PySem.W.callWith_K0 I.kIn T.k ?_
  obtain ⟨bm, N, nm, qn, bs, hdct, sn, sub, ab, col, dd, k0, k1, k2, k3, k5, mN, hC, hN, hni, OT⟩ := exc_obj I.kIn T.q
  refine wpAny_call_exc_subT PySem.F.excBase_ValueError OT hC hN hni (fun h' e hm => ?_) (Nat.zero_le _)
  exact mk_of I hm (raises_own T.b T.t) h (I.hok.gone hm.new)
/-- raise X() in a def that lets E out -/
def tRaise0 (C : Addr) (E : XK) : TS := fun _ _ H => E (.ref C) none H
theorem ps_raise0 (hc : X.calm = true) (tk : Takes X (fun cls d _ H => E cls d H)) (T : ExcT X.K X.mg x C) (hg : Gl X x) (hdb : (x == ("__debug__" : Str)) = false := by decide) :
    PS X (.Raise (some (.Call (.Name x p) [] [] pos)) none pos') (tRaise0 C E) := ps_raise hc tk (pmk0 T hg hdb)
theorem i_raise0 {D : Ends} {σ : L2.St} {H : Hp} (h : E (.ref C) none H) : tRaise0 C E D σ H := h
/-- a call within a try -/
theorem pe_calS {Es : L2.St → XK} {CX : CXT} (c : Cal X.prog X.w X.K X.mg X.base CX x k ps sp) (hr : Room j X.A) (hk : k ≤ j) (hg : Gl X x) (hx : ∀ σ, PassesAt CX X σ (Es σ))
    (ha : PA X (e :: es) t) (hdb : (x == ("__debug__" : Str)) = false := by decide) (he : starEach (e :: es) X.env = (false, eval e X.env) :: starEach es X.env := by rfl) (hpl : (backTo pos (starEach es X.env)).any (·.1) = false := by rfl) :
    PE X (.Call (.Name x p) (e :: es) [] pos) (tCallS sp Es t) := by
  obtain ⟨f, fd, F, hm, kp, b⟩ := c
  exact pe_callS F (hr.mono hk) hg hm kp b hx ha hdb he hpl
theorem i_callS {Es : L2.St → XK} {σ : L2.St} {H : Hp} {Q : VK} (h : t σ H fun vs H1 => sp vs H1 Q (Es σ)) : tCallS sp Es t σ H Q := h
/-- try: .. except X: .. -/
def tTry (K : PySem.W.Frag) (c : Value) (ts : Addr → Value → Option Addr → TS) (Wout : WX) (tb : WX → TS) : TS := fun D σ H => tb (wOnly K c ts Wout D) D σ H
theorem ps_try {c : Value} {body suite : List Stmt} {b₀ : Stmt} {np pos pos' : Pos} {tb : WX → TS} {ts : Addr → Value → Option Addr → TS} {Wout : WX}
    (hs : X.stack = X.env :: X.outer) (hf : X.env.frame = some X.env.locals) (hc : Names X x c) (tk : Takes X Wout)
    (hb : ∀ (W : WX) (pn : List (Addr × Obj)) (xe : Value → Shared → Prop), Takes (X.tr pn xe) W → PassesOwn (model X.prog X.w) X.A X.env xe → PSs (X.tr pn xe) body (tb W))
    (hsu : ∀ (a : Addr) (oe : Obj) (cls : Value) (d : Option Addr) (pn : List (Addr × Obj)), Zc cls d oe → (∃ vs, oe.data = .fields vs) → PSs (X.suite a ((a, oe) :: pn)) (b₀ :: suite) (ts a cls d)) :
    PS X (.Try body [.ExceptHandler (some (.Name x np)) none (b₀ :: suite) pos'] [] [] pos) (tTry X.K c ts Wout tb) := ps_try_only hs hf hc tk hb hsu
theorem i_try {K : PySem.W.Frag} {c : Value} {ts : Addr → Value → Option Addr → TS} {Wout : WX} {tb : WX → TS} {D : Ends} {σ : L2.St} {H : Hp} (h : tb (wOnly K c ts Wout D) D σ H) : tTry K c ts Wout tb D σ H := h
/-- the body has raised what the clause names -/
theorem i_caught {K : PySem.W.Frag} {ts : Addr → Value → Option Addr → TS} {Wout : WX} {D : Ends} {σ : L2.St} {H : Hp} {d : Option Addr} (he : PySem.W.exmOne K (.ref C) (.ref C) = some true) (h : ∀ a, H a = none → ts a (.ref C) d D σ H) : WE (wOnly K (.ref C) ts Wout D) σ (.ref C) d H :=
  ⟨true, he, fun _ => h, fun z => Bool.noConfusion z⟩
end
section
variable {P : Program} {w : World} {K : PySem.W.Frag} {mg : Str → Option Value} {base : Heap} {x m q : Str} {st : Stmt} {N ps : List Str} {C : Addr} {k : Nat} {sp : Sp}
/-- a def that may raise, by its body -/
theorem DefAt.okX (D : DefAt K mg x st ps) (S : FnScope N ps (defScope st)) (len : ∀ vs H Q E, sp vs H Q E → vs.length = ps.length)
    (hbody : ∀ (f : Addr) (cdv : Value) (A : Around) (outer : List Env) (s : Shared) (H : Hp) (vs : List V) (Q : VK) (E : XK), Room k (A.deeper (envOfC x (defScope st) s.heap.objs.size f cdv)) → sp vs H Q E →
      ∃ t, PSs (cxOf (L2.CX P w) P w K mg base N x (defScope st) f cdv A outer s H E) (defBody st) t ∧ t { nx := fun _ H' => Q .non H', rt := Q } (start N vs) H) : Cal P w K mg base (L2.CX P w) x (k + 1) ps sp := by
  obtain ⟨f, fd, F, hm, b⟩ := D
  exact ⟨f, fd, F.okX S len (hbody f), hm, F.kp, b⟩
theorem MetAt.okX (D : MetAt K C m q st ps) (S : FnScope N ps (defScope st)) (len : ∀ vs H Q E, sp vs H Q E → vs.length = ps.length)
    (hbody : ∀ (f : Addr) (cdv : Value) (A : Around) (outer : List Env) (s : Shared) (H : Hp) (vs : List V) (Q : VK) (E : XK), Room k (A.deeper (envOfC q (defScope st) s.heap.objs.size f cdv)) → sp vs H Q E →
      ∃ t, PSs (cxOf (L2.CX P w) P w K mg base N q (defScope st) f cdv A outer s H E) (defBody st) t ∧ t { nx := fun _ H' => Q .non H', rt := Q } (start N vs) H) : Met P w K mg base (L2.CX P w) C m (k + 1) ps sp := by
  obtain ⟨f, fd, F, hm, b⟩ := D
  exact ⟨f, fd, F.okX S len (hbody f), hm, b⟩
end
end Tk
namespace Tk
open PySem PySem.Spec PyProof.Rows L2
section
variable {X : Cx}
/-- is True, is False -/
def uIsB : R2 := fun x y H Q => ∃ b c, x = .bl b ∧ y = .bl c ∧ Q (.bl (decide (b = c))) H
theorem o_isB : OpR X (compareOp .Is) uIsB := by
  intro pins s σ H x y v u Q I rx ry h
  obtain ⟨b, c, rfl, rfl, q⟩ := h
  cases rx
  cases ry
  show wpAny _ _ ((isSame (Value.bool b) (Value.bool c)) >>= fun z => pure (Value.bool z)) _ _ s
  refine wpAny_bind (wpAny_isSame_plain rfl (wpAny_pure (fin_bl I q ?_)))
  cases b <;> cases c <;> rfl
def uNotB : R2 := fun x y H Q => ∃ b c, x = .bl b ∧ y = .bl c ∧ Q (.bl (!decide (b = c))) H
theorem o_notB : OpR X (compareOp .IsNot) uNotB := by
  intro pins s σ H x y v u Q I rx ry h
  obtain ⟨b, c, rfl, rfl, q⟩ := h
  cases rx
  cases ry
  show wpAny _ _ ((isSame (Value.bool b) (Value.bool c)) >>= fun z => pure (Value.bool (!z))) _ _ s
  refine wpAny_bind (wpAny_isSame_plain rfl (wpAny_pure (fin_bl I q ?_)))
  cases b <;> cases c <;> rfl
theorem i_isB {b c : Bool} {H : Hp} {Q : VK} (h : Q (.bl (decide (b = c))) H) : uIsB (.bl b) (.bl c) H Q := ⟨b, c, rfl, rfl, h⟩
theorem i_notB {b c : Bool} {H : Hp} {Q : VK} (h : Q (.bl (!decide (b = c))) H) : uNotB (.bl b) (.bl c) H Q := ⟨b, c, rfl, rfl, h⟩
/-- list(a text) -/
def signs (x : Str) : List V := x.cps.toList.map fun c => V.str ⟨#[c]⟩
def uLstS : List V → Hp → VK → Prop := fun xs H Q => ∃ x : Str, xs = [.str x] ∧ x.cps.size ≤ sizeLine ∧ ∀ l, H l = none → Q (.ref l) (upd H l (.lst (signs x)))
theorem c_lstS (hc : X.calm = true) : CallR X (.type "list") uLstS := by
  intro pins s σ H xs us Q I r h
  obtain ⟨x, rfl, hz, q⟩ := h
  obtain ⟨u, rfl, t, rfl⟩ := vals1 r
  refine call_list_str (hn := hz) (I.ok.hd hc) x t fun h' tk acc c' hk e hi => ?_
  have hl : (signs x).length = x.cps.size := by unfold signs; simp
  refine ⟨.ref s.heap.objs.size, upd H s.heap.objs.size (.lst (signs x)), I.laid hk (Nat.le_refl _) ⟨by rw [hl]; exact hz, acc.toList, c', ?_, by rw [Array.toArray_toList]; exact e⟩, rfl, q _ (I.hok.fresh (Nat.le_refl _))⟩
  refine vals_of_idx _ _ (by rw [hl, Array.length_toList]; exact hi.1) fun j u hj => ?_
  obtain ⟨c, t', hc, rfl⟩ := hi.2 j u (by rw [← Array.getElem?_toList]; exact hj)
  exact ⟨.str ⟨#[c]⟩, by simp [signs, hc], ⟨_, rfl⟩⟩
theorem k_lstS {X : Cx} (hc : X.calm = true) : CallR X (.type "list") uLstS := c_lstS hc
theorem i_lstS {x : Str} {H : Hp} {Q : VK} (hz : x.cps.size ≤ sizeLine) (h : ∀ p H', H p = none → Keep [] H H' → H' p = some (.lst (signs x)) → Q (.ref p) H') : uLstS [.str x] H Q :=
  ⟨x, rfl, hz, new_of (P := fun p H' => Q (.ref p) H') h⟩
end
end Tk
namespace My
open PySem L2 Tk
def top (i : Nat) : Stmt := PySem.Challenge.pw_sayonce_k23_certificates.main.body.getD i (.Pass ⟨0, 0, 0, 0⟩)
abbrev s_l_pool : Stmt := top 23
theorem sc_l_pool : FnScope ["_law_script", "_law_cell"] ["_law_script"] (defScope s_l_pool) := ⟨rfl, rfl, rfl, by decide +kernel, rfl, by decide +kernel, by decide +kernel⟩
abbrev s_l_take : Stmt := top 24
theorem sc_l_take : FnScope ["_law_pool_here", "_law_many", "_law_digit", "_law_cell", "_law_mixed"] ["_law_pool_here", "_law_many"] (defScope s_l_take) := ⟨rfl, rfl, rfl, by decide +kernel, rfl, by decide +kernel, by decide +kernel⟩
abbrev s_l_turned : Stmt := top 33
theorem sc_l_turned : FnScope ["_law_pool_here", "_law_rows_here", "_law_letters", "_law_found", "_law_bounded_here", "_law_row", "_law_part", "_law_left", "_law_k", "_law_word_here"] ["_law_pool_here", "_law_rows_here"] (defScope s_l_turned) := ⟨rfl, rfl, rfl, by decide +kernel, rfl, by decide +kernel, by decide +kernel⟩
abbrev s_is_word : Stmt := top 15
theorem sc_is_word : FnScope ["text", "letter"] ["text"] (defScope s_is_word) := ⟨rfl, rfl, rfl, by decide +kernel, rfl, by decide +kernel, by decide +kernel⟩
abbrev s_simple_fault : Stmt := top 16
theorem sc_simple_fault : FnScope ["row"] ["row"] (defScope s_simple_fault) := ⟨rfl, rfl, rfl, by decide +kernel, rfl, by decide +kernel, by decide +kernel⟩
abbrev s_multiplier_fault : Stmt := top 17
theorem sc_multiplier_fault : FnScope ["row", "word", "value", "count", "_", "rest"] ["row"] (defScope s_multiplier_fault) := ⟨rfl, rfl, rfl, by decide +kernel, rfl, by decide +kernel, by decide +kernel⟩
abbrev s_check_rows : Stmt := top 18
theorem sc_check_rows : FnScope ["part", "rows", "most", "number", "row", "reason"] ["part", "rows", "most"] (defScope s_check_rows) := ⟨rfl, rfl, rfl, by decide +kernel, rfl, by decide +kernel, by decide +kernel⟩
abbrev s_check_words : Stmt := top 19
theorem sc_check_words : FnScope ["simple", "multipliers", "seen", "part", "rows", "number", "row"] ["simple", "multipliers"] (defScope s_check_words) := ⟨rfl, rfl, rfl, by decide +kernel, rfl, by decide +kernel, by decide +kernel⟩
abbrev s_check_endless : Stmt := top 20
theorem sc_check_endless : FnScope ["multipliers", "found", "number", "row"] ["multipliers"] (defScope s_check_endless) := ⟨rfl, rfl, rfl, by decide +kernel, rfl, by decide +kernel, by decide +kernel⟩
abbrev s_System_init : Stmt := inClass (top 21) 0
theorem sc_System_init : FnScope ["self", "simple", "multipliers", "row"] ["self", "simple", "multipliers"] (defScope s_System_init) := ⟨rfl, rfl, rfl, by decide +kernel, rfl, by decide +kernel, by decide +kernel⟩
abbrev s_l_shaped : Stmt := top 34
theorem sc_l_shaped : FnScope ["_law_pool_here", "_law_rows_here", "_law_found", "_law_row"] ["_law_pool_here", "_law_rows_here"] (defScope s_l_shaped) := ⟨rfl, rfl, rfl, by decide +kernel, rfl, by decide +kernel, by decide +kernel⟩
abbrev s_l_made : Stmt := top 38
theorem sc_l_made : FnScope ["_law_pool_here", "_law_rows_here"] ["_law_pool_here", "_law_rows_here"] (defScope s_l_made) := ⟨rfl, rfl, rfl, by decide +kernel, rfl, by decide +kernel, by decide +kernel⟩
abbrev s_l_endless : Stmt := top 39
theorem sc_l_endless : FnScope ["_law_rows_here", "_law_row"] ["_law_rows_here"] (defScope s_l_endless) := ⟨rfl, rfl, rfl, by decide +kernel, rfl, by decide +kernel, by decide +kernel⟩
abbrev s_l_bounded : Stmt := top 36
theorem sc_l_bounded : FnScope ["_law_rows_here", "_law_found", "_law_word_here", "_law_value", "_law_most", "_law_is_unsaid", "_law_last"] ["_law_rows_here"] (defScope s_l_bounded) := ⟨rfl, rfl, rfl, by decide +kernel, rfl, by decide +kernel, by decide +kernel⟩
abbrev s_l_edge : Stmt := top 40
theorem sc_l_edge : FnScope ["_law_rows_here", "_law_row"] ["_law_rows_here"] (defScope s_l_edge) := ⟨rfl, rfl, rfl, by decide +kernel, rfl, by decide +kernel, by decide +kernel⟩
abbrev s_l_looked : Stmt := top 42
theorem sc_l_looked : FnScope ["_law_rows_here", "_law_covered", "_law_found", "_law_word_here", "_law_value", "_law_most", "_law_is_unsaid", "_law_last", "_law_times"] ["_law_rows_here", "_law_covered"] (defScope s_l_looked) := ⟨rfl, rfl, rfl, by decide +kernel, rfl, by decide +kernel, by decide +kernel⟩
abbrev s_l_reach : Stmt := top 41
theorem sc_l_reach : FnScope ["_law_rows_here", "_law_covered", "_law_word_here", "_law_times", "_law_other", "_law_value", "_law_most", "_law_is_unsaid", "_law_last"] ["_law_rows_here", "_law_covered", "_law_word_here", "_law_times"] (defScope s_l_reach) := ⟨rfl, rfl, rfl, by decide +kernel, rfl, by decide +kernel, by decide +kernel⟩
abbrev s_l_due : Stmt := top 43
theorem sc_l_due : FnScope ["_law_rows_here", "_law_edge_here", "_law_covered", "_law_found", "_law_turn", "_law_best", "_law_word_here", "_law_times", "_law_reach_here"] ["_law_rows_here"] (defScope s_l_due) := ⟨rfl, rfl, rfl, by decide +kernel, rfl, by decide +kernel, by decide +kernel⟩
abbrev s_Cover_init : Stmt := inClass (top 2) 0
theorem sc_Cover_init : FnScope ["self", "system"] ["self", "system"] (defScope s_Cover_init) := ⟨rfl, rfl, rfl, by decide +kernel, rfl, by decide +kernel, by decide +kernel⟩
abbrev s_System_bounded_maximum : Stmt := inClass (top 21) 5
theorem sc_System_bounded_maximum : FnScope ["self", "found", "row"] ["self"] (defScope s_System_bounded_maximum) := ⟨rfl, rfl, rfl, by decide +kernel, rfl, by decide +kernel, by decide +kernel⟩
abbrev s_System_endless : Stmt := inClass (top 21) 4
theorem sc_System_endless : FnScope ["self", "row"] ["self"] (defScope s_System_endless) := ⟨rfl, rfl, rfl, by decide +kernel, rfl, by decide +kernel, by decide +kernel⟩
abbrev s_bound : Stmt := top 1
theorem sc_bound : FnScope ["system", "top", "row"] ["system"] (defScope s_bound) := ⟨rfl, rfl, rfl, by decide +kernel, rfl, by decide +kernel, by decide +kernel⟩
abbrev s_Cover_steps : Stmt := inClass (top 2) 5
theorem sc_Cover_steps : FnScope ["self", "found", "word", "_", "value", "most", "is_unsaid", "times"] ["self"] (defScope s_Cover_steps) := ⟨rfl, rfl, rfl, by decide +kernel, rfl, by decide +kernel, by decide +kernel⟩
abbrev s_System_simple_value : Stmt := inClass (top 21) 2
theorem sc_System_simple_value : FnScope ["self", "word"] ["self", "word"] (defScope s_System_simple_value) := ⟨rfl, rfl, rfl, by decide +kernel, rfl, by decide +kernel, by decide +kernel⟩
abbrev s_System_multiplier : Stmt := inClass (top 21) 3
theorem sc_System_multiplier : FnScope ["self", "word"] ["self", "word"] (defScope s_System_multiplier) := ⟨rfl, rfl, rfl, by decide +kernel, rfl, by decide +kernel, by decide +kernel⟩
abbrev s_Cover_is_count : Stmt := inClass (top 2) 2
theorem sc_Cover_is_count : FnScope ["self", "row", "times", "_", "most", "is_unsaid"] ["self", "row", "times"] (defScope s_Cover_is_count) := ⟨rfl, rfl, rfl, by decide +kernel, rfl, by decide +kernel, by decide +kernel⟩
abbrev s_Cover_reach : Stmt := inClass (top 2) 3
theorem sc_Cover_reach : FnScope ["self", "row", "times"] ["self", "row", "times"] (defScope s_Cover_reach) := ⟨rfl, rfl, rfl, by decide +kernel, rfl, by decide +kernel, by decide +kernel⟩
abbrev s_Cover_simple_reach : Stmt := inClass (top 2) 1
theorem sc_Cover_simple_reach : FnScope ["self", "value"] ["self", "value"] (defScope s_Cover_simple_reach) := ⟨rfl, rfl, rfl, by decide +kernel, rfl, by decide +kernel, by decide +kernel⟩
abbrev s_Cover_step_reach : Stmt := inClass (top 2) 4
theorem sc_Cover_step_reach : FnScope ["self", "word", "times", "value", "row"] ["self", "word", "times"] (defScope s_Cover_step_reach) := ⟨rfl, rfl, rfl, by decide +kernel, rfl, by decide +kernel, by decide +kernel⟩
abbrev s_Cover_best : Stmt := inClass (top 2) 6
theorem sc_Cover_best : FnScope ["self", "found", "farthest", "word", "times", "reach"] ["self"] (defScope s_Cover_best) := ⟨rfl, rfl, rfl, by decide +kernel, rfl, by decide +kernel, by decide +kernel⟩
abbrev s_Cover_take : Stmt := inClass (top 2) 7
theorem sc_Cover_take : FnScope ["self", "step"] ["self", "step"] (defScope s_Cover_take) := ⟨rfl, rfl, rfl, by decide +kernel, rfl, by decide +kernel, by decide +kernel⟩
abbrev s_covering : Stmt := top 3
theorem sc_covering : FnScope ["system", "held", "needed", "found", "step"] ["system"] (defScope s_covering) := ⟨rfl, rfl, rfl, by decide +kernel, rfl, by decide +kernel, by decide +kernel⟩
abbrev s_certificate : Stmt := top 4
theorem sc_certificate : FnScope ["system", "steps", "covered"] ["system"] (defScope s_certificate) := ⟨rfl, rfl, rfl, by decide +kernel, rfl, by decide +kernel, by decide +kernel⟩
abbrev s_l_word : Stmt := top 27
theorem sc_l_word : FnScope ["_law_pool_here", "_law_number", "_law_letters", "_law_total", "_law_found", "_law_k"] ["_law_pool_here", "_law_number"] (defScope s_l_word) := ⟨rfl, rfl, rfl, by decide +kernel, rfl, by decide +kernel, by decide +kernel⟩
abbrev s_l_drawn : Stmt := top 28
theorem sc_l_drawn : FnScope ["_law_pool_here", "_law_simple", "_law_k", "_law_multipliers", "_law_value", "_law_count_here", "_law_row", "_law_rest"] ["_law_pool_here"] (defScope s_l_drawn) := ⟨rfl, rfl, rfl, by decide +kernel, rfl, by decide +kernel, by decide +kernel⟩
abbrev s_l_regular : Stmt := top 29
theorem sc_l_regular : FnScope ["_law_pool_here", "_law_base", "_law_is_unsaid", "_law_simple", "_law_k", "_law_multipliers", "_law_value"] ["_law_pool_here"] (defScope s_l_regular) := ⟨rfl, rfl, rfl, by decide +kernel, rfl, by decide +kernel, by decide +kernel⟩
abbrev s_l_nearly : Stmt := top 30
theorem sc_l_nearly : FnScope ["_law_pool_here", "_law_rows_here", "_law_at", "_law_word_here", "_law_value", "_law_count_here", "_law_is_unsaid", "_law_rest", "_law_kind"] ["_law_pool_here"] (defScope s_l_nearly) := ⟨rfl, rfl, rfl, by decide +kernel, rfl, by decide +kernel, by decide +kernel⟩
abbrev s_l_english : Stmt := top 31
theorem sc_l_english : FnScope ["_law_pool_here", "_law_names", "_law_simple", "_law_k", "_law_multipliers", "_law_tens", "_law_word_here", "_law_value"] ["_law_pool_here"] (defScope s_l_english) := ⟨rfl, rfl, rfl, by decide +kernel, rfl, by decide +kernel, by decide +kernel⟩
abbrev s_l_rows : Stmt := top 32
theorem sc_l_rows : FnScope ["_law_pool_here", "_law_kind"] ["_law_pool_here"] (defScope s_l_rows) := ⟨rfl, rfl, rfl, by decide +kernel, rfl, by decide +kernel, by decide +kernel⟩
abbrev s_l_small : Stmt := top 37
theorem sc_l_small : FnScope ["_law_pool_here", "_law_rows_here"] ["_law_pool_here"] (defScope s_l_small) := ⟨rfl, rfl, rfl, by decide +kernel, rfl, by decide +kernel, by decide +kernel⟩
abbrev s_l_is_integer : Stmt := top 25
theorem sc_l_is_integer : FnScope ["_law_actual"] ["_law_actual"] (defScope s_l_is_integer) := ⟨rfl, rfl, rfl, by decide +kernel, rfl, by decide +kernel, by decide +kernel⟩
abbrev s_l_same : Stmt := top 26
theorem sc_l_same : FnScope ["_law_actual", "_law_due_here", "_law_k"] ["_law_actual", "_law_due_here"] (defScope s_l_same) := ⟨rfl, rfl, rfl, by decide +kernel, rfl, by decide +kernel, by decide +kernel⟩
abbrev s_is_certificate : Stmt := top 5
theorem sc_is_certificate : FnScope ["system", "steps", "held", "word", "times", "row"] ["system", "steps"] (defScope s_is_certificate) := ⟨rfl, rfl, rfl, by decide +kernel, rfl, by decide +kernel, by decide +kernel⟩
abbrev s_l_count : Stmt := top 35
theorem sc_l_count : FnScope ["_law_rows_here", "_law_number", "_law_known", "_law_found", "_law_word_here", "_law_value", "_law_most", "_law_is_unsaid", "_law_last", "_law_count_here", "_law_rest", "_law_ahead"] ["_law_rows_here", "_law_number", "_law_known"] (defScope s_l_count) := ⟨rfl, rfl, rfl, by decide +kernel, rfl, by decide +kernel, by decide +kernel⟩
abbrev s_law : Stmt := top 44
theorem sc_law : FnScope ["_law_script", "_law_pool_here", "_law_rows_here", "_law_system", "_law_due_here", "_law_told", "_law_known", "_law_is_whole", "_law_number", "_law_step"] ["_law_script"] (defScope s_law) := ⟨rfl, rfl, rfl, by decide +kernel, rfl, by decide +kernel, by decide +kernel⟩
structure Txt (K : PySem.W.Frag) (mg : Str → Option Value) : Type where
  C_System : Addr
  C_Cover : Addr
  b_len : mg "len" = none
  b_int : mg "int" = none
  b_list : mg "list" = none
  b_range : mg "range" = none
  b_all : mg "all" = none
  b_enumerate : mg "enumerate" = none
  b_tuple : mg "tuple" = none
  b_max : mg "max" = none
  b_min : mg "min" = none
  b_sum : mg "sum" = none
  b_any : mg "any" = none
  b_isinstance : mg "isinstance" = none
  b_bool : mg "bool" = none
  b_str : mg "str" = none
  g_MOST_LETTERS : ∃ u, mg "MOST_LETTERS" = some u ∧ RelV (.int 8) u
  g_LETTERS : ∃ u, mg "LETTERS" = some u ∧ RelV (.str "abcdefghijklmnopqrstuvwxyz") u
  g_MOST_VALUE : ∃ u, mg "MOST_VALUE" = some u ∧ RelV (.int 100000) u
  g_MOST_SIMPLE : ∃ u, mg "MOST_SIMPLE" = some u ∧ RelV (.int 24) u
  g_MOST_MULTIPLIERS : ∃ u, mg "MOST_MULTIPLIERS" = some u ∧ RelV (.int 6) u
  cl_System : Cls K C_System
  n_System_simple : NoAttr K C_System "simple"
  n_System_multipliers : NoAttr K C_System "multipliers"
  n_System__values : NoAttr K C_System "_values"
  n_System__rows : NoAttr K C_System "_rows"
  cl_Cover : Cls K C_Cover
  n_Cover_system : NoAttr K C_Cover "system"
  n_Cover_covered : NoAttr K C_Cover "covered"
  d_l_pool : DefAt K mg "_law_pool" s_l_pool ["_law_script"]
  d_l_take : DefAt K mg "_law_take" s_l_take ["_law_pool_here", "_law_many"]
  d_l_turned : DefAt K mg "_law_turned" s_l_turned ["_law_pool_here", "_law_rows_here"]
  d_is_word : DefAt K mg "is_word" s_is_word ["text"]
  d_simple_fault : DefAt K mg "simple_fault" s_simple_fault ["row"]
  d_multiplier_fault : DefAt K mg "multiplier_fault" s_multiplier_fault ["row"]
  d_check_rows : DefAt K mg "check_rows" s_check_rows ["part", "rows", "most"]
  d_check_words : DefAt K mg "check_words" s_check_words ["simple", "multipliers"]
  d_check_endless : DefAt K mg "check_endless" s_check_endless ["multipliers"]
  d_System_init : IniAt K mg "System" "System.__init__" C_System s_System_init ["self", "simple", "multipliers"]
  d_l_shaped : DefAt K mg "_law_shaped" s_l_shaped ["_law_pool_here", "_law_rows_here"]
  d_l_made : DefAt K mg "_law_made" s_l_made ["_law_pool_here", "_law_rows_here"]
  d_l_endless : DefAt K mg "_law_endless" s_l_endless ["_law_rows_here"]
  d_l_bounded : DefAt K mg "_law_bounded" s_l_bounded ["_law_rows_here"]
  d_l_edge : DefAt K mg "_law_edge" s_l_edge ["_law_rows_here"]
  d_l_looked : DefAt K mg "_law_looked" s_l_looked ["_law_rows_here", "_law_covered"]
  d_l_reach : DefAt K mg "_law_reach" s_l_reach ["_law_rows_here", "_law_covered", "_law_word_here", "_law_times"]
  d_l_due : DefAt K mg "_law_due" s_l_due ["_law_rows_here"]
  d_Cover_init : IniAt K mg "Cover" "Cover.__init__" C_Cover s_Cover_init ["self", "system"]
  d_System_bounded_maximum : MetAt K C_System "bounded_maximum" "System.bounded_maximum" s_System_bounded_maximum ["self"]
  d_System_endless : MetAt K C_System "endless" "System.endless" s_System_endless ["self"]
  d_bound : DefAt K mg "bound" s_bound ["system"]
  d_Cover_steps : MetAt K C_Cover "steps" "Cover.steps" s_Cover_steps ["self"]
  d_System_simple_value : MetAt K C_System "simple_value" "System.simple_value" s_System_simple_value ["self", "word"]
  d_System_multiplier : MetAt K C_System "multiplier" "System.multiplier" s_System_multiplier ["self", "word"]
  d_Cover_is_count : MetAt K C_Cover "is_count" "Cover.is_count" s_Cover_is_count ["self", "row", "times"]
  d_Cover_reach : MetAt K C_Cover "reach" "Cover.reach" s_Cover_reach ["self", "row", "times"]
  d_Cover_simple_reach : MetAt K C_Cover "simple_reach" "Cover.simple_reach" s_Cover_simple_reach ["self", "value"]
  d_Cover_step_reach : MetAt K C_Cover "step_reach" "Cover.step_reach" s_Cover_step_reach ["self", "word", "times"]
  d_Cover_best : MetAt K C_Cover "best" "Cover.best" s_Cover_best ["self"]
  d_Cover_take : MetAt K C_Cover "take" "Cover.take" s_Cover_take ["self", "step"]
  d_covering : DefAt K mg "covering" s_covering ["system"]
  d_certificate : DefAt K mg "certificate" s_certificate ["system"]
  d_l_word : DefAt K mg "_law_word" s_l_word ["_law_pool_here", "_law_number"]
  d_l_drawn : DefAt K mg "_law_drawn" s_l_drawn ["_law_pool_here"]
  d_l_regular : DefAt K mg "_law_regular" s_l_regular ["_law_pool_here"]
  d_l_nearly : DefAt K mg "_law_nearly" s_l_nearly ["_law_pool_here"]
  d_l_english : DefAt K mg "_law_english" s_l_english ["_law_pool_here"]
  d_l_rows : DefAt K mg "_law_rows" s_l_rows ["_law_pool_here"]
  d_l_small : DefAt K mg "_law_small" s_l_small ["_law_pool_here"]
  d_l_is_integer : DefAt K mg "_law_is_integer" s_l_is_integer ["_law_actual"]
  d_l_same : DefAt K mg "_law_same" s_l_same ["_law_actual", "_law_due_here"]
  d_is_certificate : DefAt K mg "is_certificate" s_is_certificate ["system", "steps"]
  d_l_count : DefAt K mg "_law_count" s_l_count ["_law_rows_here", "_law_number", "_law_known"]
  d_law : DefAt K mg "law" s_law ["_law_script"]
local macro_rules | `(tactic| walk_at "st") => `(tactic| ((try (conv => lhs; simp only [wipe, List.map_cons, List.map_nil, List.set_cons_zero, List.set_cons_succ])); (first | done | exact rfl)))
local macro_rules | `(tactic| walk_at "ne") => `(tactic| first
  | exact List.not_mem_nil
  | (refine nm_cons ?_ ?_; (first | assumption | exact Ne.symm (by assumption)); walk_at "ne"))
local macro_rules | `(tactic| walk_at "trT") => `(tactic| first
  | assumption
  | exact SqT.of (by assumption)
  | ((with_reducible refine' Keep.sqT (by assumption) ?h); (case h => walk_at "trT")))
local macro_rules | `(tactic| walk_at "trL") => `(tactic| first
  | assumption
  | exact SqL.of (by assumption)
  | ((with_reducible refine' Keep.sqL (by assumption) ?h ?n); (case h => walk_at "trL"); (case n => walk_at "ne")))
local macro_rules | `(tactic| walk_at "trU") => `(tactic| first
  | assumption
  | ((with_reducible refine' Keep.atT (by assumption) ?h); (case h => walk_at "trU")))
local macro_rules | `(tactic| walk_at "trA") => `(tactic| first
  | assumption
  | ((with_reducible refine' Keep.atT (by assumption) ?h); (case h => walk_at "trU"))
  | ((with_reducible refine' Keep.at (by assumption) ?h ?n); (case h => walk_at "trA"); (case n => walk_at "ne")))
local macro_rules | `(tactic| walk_at "trB") => `(tactic| first
  | assumption
  | ((with_reducible refine' SqB.keep (by assumption) ?n ?h); (case h => walk_at "trB"); (case n => walk_at "sub")))
local macro_rules | `(tactic| walk_at "tr") => `(tactic| first
  | assumption
  | walk_at "trT"
  | walk_at "trL"
  | walk_at "trA"
  | walk_at "trB"
  | walk_at "tr1")
local macro_rules | `(tactic| walk_at "sub") => `(tactic| first
  | exact fun _ h => h
  | exact fun _ h => absurd h List.not_mem_nil
  | (intro b hb; simp only [List.mem_cons, List.not_mem_nil, or_false, false_or] at hb ⊢; (first | done | simp [hb] | (rcases hb with hb | hb <;> simp [hb]) | (rcases hb with hb | hb | hb <;> simp [hb]) | (rcases hb with hb | hb | hb | hb <;> simp [hb]) | simp_all)))
local macro_rules | `(tactic| walk_at "kp") => `(tactic| first
  | assumption
  | exact Keep.rfl'
  | (refine Keep.trans ?_ (Keep.wid (by assumption) ?_); (walk_at "kp"); (walk_at "sub")))
local macro_rules | `(tactic| walk_at "lk") => `(tactic| first
  | exact lk_hit
  | (refine (lk_skip (by decide +kernel)).trans ?_; walk_at "lk"))
local macro_rules | `(tactic| walk_at "nolk") => `(tactic| first
  | rfl
  | (refine (lk_skip (by decide +kernel)).trans ?_; walk_at "nolk"))
local macro_rules | `(tactic| walk_at "isi") => `(tactic| first
  | with_reducible refine isi_I_int ?_
  | with_reducible refine isi_I_bool ?_
  | with_reducible refine isi_I_str ?_
  | with_reducible refine isi_I_list ?_
  | with_reducible refine isi_I_tuple ?_
  | with_reducible refine isi_B_int ?_
  | with_reducible refine isi_B_bool ?_
  | with_reducible refine isi_B_str ?_
  | with_reducible refine isi_B_list ?_
  | with_reducible refine isi_B_tuple ?_
  | with_reducible refine isi_S_int ?_
  | with_reducible refine isi_S_bool ?_
  | with_reducible refine isi_S_str ?_
  | with_reducible refine isi_S_list ?_
  | with_reducible refine isi_S_tuple ?_
  | with_reducible refine isi_N_int ?_
  | with_reducible refine isi_N_bool ?_
  | with_reducible refine isi_N_str ?_
  | with_reducible refine isi_N_list ?_
  | with_reducible refine isi_N_tuple ?_
  | ((with_reducible refine' isi_L_int ?e ?_); (case e => walk_at "tr"))
  | ((with_reducible refine' isi_L_bool ?e ?_); (case e => walk_at "tr"))
  | ((with_reducible refine' isi_L_str ?e ?_); (case e => walk_at "tr"))
  | ((with_reducible refine' isi_L_list ?e ?_); (case e => walk_at "tr"))
  | ((with_reducible refine' isi_L_tuple ?e ?_); (case e => walk_at "tr"))
  | ((with_reducible refine' isi_T_int ?e ?_); (case e => walk_at "tr"))
  | ((with_reducible refine' isi_T_bool ?e ?_); (case e => walk_at "tr"))
  | ((with_reducible refine' isi_T_str ?e ?_); (case e => walk_at "tr"))
  | ((with_reducible refine' isi_T_list ?e ?_); (case e => walk_at "tr"))
  | ((with_reducible refine' isi_T_tuple ?e ?_); (case e => walk_at "tr")))
local macro_rules | `(tactic| walk_at "go1") => `(tactic| first
  | with_reducible refine i_seq ?_
  | with_reducible refine i_asg ?_
  | ((with_reducible refine' i_gn ?e ?_); (case e => walk_at "st"))
  | with_reducible refine i_drop ?_
  | ((with_reducible refine' i_aug ?e ?_); (case e => exact rfl))
  | ((with_reducible refine' i_augv ?e ?_); (case e => walk_at "st"))
  | with_reducible refine i_ret ?_
  | with_reducible refine i_retN ?_
  | with_reducible refine i_ifS ?_
  | with_reducible refine i_next ?_
  | with_reducible refine i_brk ?_
  | with_reducible refine i_ct ?_
  | ((with_reducible refine' i_var ?e ?_); (case e => exact rfl))
  | with_reducible refine i_c ?_
  | with_reducible refine i_op ?_
  | with_reducible refine i_un ?_
  | with_reducible refine i_test ?_
  | with_reducible refine i_tB ?_
  | with_reducible refine i_bl ?_
  | with_reducible refine i_tr ?_
  | with_reducible refine i_truB ?_
  | with_reducible refine i_truI ?_
  | with_reducible refine i_truN ?_
  | with_reducible refine i_not ?_
  | with_reducible refine i_notV ?_
  | with_reducible refine i_if ?_
  | with_reducible refine i_chain ?_
  | with_reducible refine i_nil ?_
  | with_reducible refine i_cons ?_
  | with_reducible refine i_call ?_
  | with_reducible refine i_callS ?_
  | with_reducible refine i_try ?_
  | with_reducible refine i_raise0 ?_
  | with_reducible refine i_cb ?_
  | with_reducible refine i_ckw ?_
  | with_reducible refine i_sl ?_
  | with_reducible refine i_nop ?_
  | with_reducible refine i_part ?_
  | with_reducible refine i_xi ?_
  | with_reducible refine i_bm ?_
  | with_reducible refine i_bm0 ?_
  | with_reducible refine i_fld ?_
  | with_reducible refine i_meth ?_
  | with_reducible refine i_tupE ?_
  | with_reducible refine i_lc ?_
  | with_reducible refine i_dc ?_
  | ((with_reducible refine' i_fldv ?e ?c ?n ?l ?_); (case e => walk_at "tr"); (case c => assumption); (case n => assumption); (case l => walk_at "lk"))
  | with_reducible refine i_for ?_
  | with_reducible refine i_sqE ?_
  | with_reducible refine i_enE ?_
  | with_reducible refine i_strE ?_
  | with_reducible refine i_strv ?_
  | with_reducible refine i_rng1E ?_
  | with_reducible refine i_rng2E ?_
  | with_reducible refine i_gsub ?_
  | with_reducible refine i_gc ?_
  | with_reducible refine i_gnil ?_
  | with_reducible refine i_yes ?_
  | with_reducible refine i_m1 ?_
  | with_reducible refine i_lstE ?_
  | with_reducible refine i_revL ?_
  | with_reducible refine i_sfld ?_
  | with_reducible refine i_make ?_
  | with_reducible refine i_inSg ?_
  | ((with_reducible refine i_isi ?_); walk_at "isi")
  | walk_at "go2")
local macro_rules | `(tactic| walk_at "go2") => `(tactic| first
  | with_reducible refine i_T ?_
  | with_reducible refine i_pnil ?_
  | with_reducible refine i_pcons ?_
  | ((with_reducible refine' i_tyL ?e ?_); (case e => walk_at "tr"))
  | with_reducible refine i_F ?_
  | with_reducible refine i_NT ?_
  | with_reducible refine i_NF ?_
  | ((with_reducible refine' i_pos ?c ?_); (case c => omega))
  | ((with_reducible refine' i_neg' ?c ?_); (case c => omega))
  | ((with_reducible refine' i_Npos ?c ?_); (case c => omega))
  | ((with_reducible refine' i_Nneg ?c ?_); (case c => omega))
  | with_reducible refine i_add ?_
  | with_reducible refine i_sub ?_
  | with_reducible refine i_lt ?_
  | with_reducible refine i_le ?_
  | with_reducible refine i_gt ?_
  | with_reducible refine i_ge ?_
  | with_reducible refine i_isNn ?_
  | with_reducible refine i_isNi ?_
  | with_reducible refine i_isNr ?_
  | with_reducible refine i_isNs ?_
  | with_reducible refine i_isNb ?_
  | with_reducible refine i_notNb ?_
  | with_reducible refine i_notNn ?_
  | with_reducible refine i_notNi ?_
  | with_reducible refine i_notNr ?_
  | with_reducible refine i_notNs ?_
  | with_reducible refine i_eqI ?_
  | with_reducible refine i_eqS ?_
  | with_reducible refine i_eqB ?_
  | with_reducible refine i_neI ?_
  | with_reducible refine i_neS ?_
  | with_reducible refine i_neB ?_
  | with_reducible refine i_neg ?_
  | with_reducible refine i_int ?_
  | with_reducible refine i_isB ?_
  | with_reducible refine i_notB ?_
  | with_reducible refine i_intB ?_
  | with_reducible refine i_min ?_
  | with_reducible refine i_max ?_
  | ((with_reducible refine' i_mul ?e ?_); (case e => (first | exact Or.inl ⟨by omega, by omega⟩ | exact Or.inr ⟨by omega, by omega⟩)))
  | ((with_reducible refine' i_div ?e ?_); (case e => exact ⟨by omega, by omega⟩))
  | ((with_reducible refine' i_mod ?e ?_); (case e => omega))
  | ((with_reducible refine' i_pow ?e ?_); (case e => (refine ⟨by decide, by decide, by decide⟩)))
  | ((with_reducible refine' i_and2 ?h1 ?h2 ?_); (case h1 => (intro _ _; (repeat walk_at "go1"); assumption)); (case h2 => (intro _ _ _; (repeat walk_at "go1"); assumption)))
  | ((with_reducible refine' i_or2 ?h1 ?h2 ?_); (case h1 => (intro _ _; (repeat walk_at "go1"); assumption)); (case h2 => (intro _ _ _; (repeat walk_at "go1"); assumption)))
  | ((with_reducible refine' i_andV2 ?h1 ?h2 ?_); (case h1 => (intro _ _; (repeat walk_at "go1"); assumption)); (case h2 => (intro _ _ _; (repeat walk_at "go1"); assumption)))
  | ((with_reducible refine' i_orV2 ?h1 ?h2 ?_); (case h1 => (intro _ _; (repeat walk_at "go1"); assumption)); (case h2 => (intro _ _ _; (repeat walk_at "go1"); assumption)))
  | ((with_reducible refine' i_ixT ?e1 ?e2 ?_); (case e1 => walk_at "tr"); (case e2 => exact rfl))
  | ((with_reducible refine' i_ixL ?e1 ?e2 ?_); (case e1 => walk_at "tr"); (case e2 => exact rfl))
  | ((with_reducible refine' i_ixB ?e1 ?e2 ?_); (case e1 => walk_at "tr"); (case e2 => exact rfl))
  | ((with_reducible refine' i_lenL ?e ?_); (case e => walk_at "tr"))
  | ((with_reducible refine' i_lenT ?e ?_); (case e => walk_at "tr"))
  | ((with_reducible refine' i_lenB ?e ?_); (case e => walk_at "tr"))
  | ((with_reducible refine' i_lenK ?e ?_); (case e => walk_at "tr"))
  | ((with_reducible refine' i_sqL ?e ?_); (case e => walk_at "tr"))
  | ((with_reducible refine' i_sqT ?e ?_); (case e => walk_at "tr"))
  | ((with_reducible refine' i_enL ?e ?_); (case e => walk_at "tr"))
  | ((with_reducible refine' i_enT ?e ?_); (case e => walk_at "tr"))
  | ((with_reducible refine' i_unT ?e ?l ?_); (case e => walk_at "tr"); (case l => exact rfl))
  | ((with_reducible refine' i_unL ?e ?l ?_); (case e => walk_at "tr"); (case l => exact rfl))
  | ((with_reducible refine' i_unB ?e ?l ?_); (case e => walk_at "tr"); (case l => exact rfl))
  | ((with_reducible refine' i_rng1 ?e1 ?e2 ?_); (case e1 => omega); (case e2 => omega))
  | ((with_reducible refine' i_rng2 ?e1 ?e2 ?e3 ?e4 ?_); (case e1 => omega); (case e2 => omega); (case e3 => omega); (case e4 => omega))
  | with_reducible refine i_andV ?_
  | with_reducible refine i_orV ?_
  | with_reducible refine i_and ?_
  | with_reducible refine i_or ?_
  | walk_at "go3")
local macro_rules | `(tactic| walk_at "go") => `(tactic| repeat (walk_at "go1"))
local macro_rules | `(tactic| walk_at "pf") => `(tactic| first
  | exact pf_nil
  | exact pf_hit
  | (refine' pf_skip' (by decide +kernel) ?e; (case e => walk_at "pf")))
/-! ### the pool of draws: p the pool, c its cells -/
structure PoolAt (t : Int) (H : Hp) (p c : Addr) : Prop where
  at_ : ∃ (i a b : Int), H p = some (.lst [.ref c, .int i, .int a, .int b]) ∧ 0 ≤ i ∧ 0 ≤ a ∧ 0 ≤ b ∧ b < 2147483647
  cells : ∃ ns : List Int, H c = some (.lst (ns.map V.int)) ∧ (∀ n ∈ ns, 0 ≤ n) ∧ ns.length ≤ 63 ∧ (ns.take 5).sum = t
  ne : c ≠ p
theorem PoolAt.keep {t : Int} {m : List Addr} {H H' : Hp} {p c : Addr} (k : Keep m H H') (h : PoolAt t H p c) (h1 : p ∉ m) (h2 : c ∉ m) : PoolAt t H' p c := by
  obtain ⟨⟨i, a, b, e, r⟩, ⟨ns, e2, r2⟩, ne⟩ := h
  exact ⟨⟨i, a, b, k.at e h1, r⟩, ⟨ns, k.at e2 h2, r2⟩, ne⟩
theorem PoolAt.off {t : Int} {H : Hp} {p c l : Addr} (h : PoolAt t H p c) (hl : H l = none) : l ≠ p ∧ l ≠ c := by
  obtain ⟨⟨i, a, b, e, r⟩, ⟨ns, e2, r2⟩, ne⟩ := h
  exact ⟨Ne.symm (ne_of_none e hl), Ne.symm (ne_of_none e2 hl)⟩
local macro_rules | `(tactic| walk_at "tr1") => `(tactic| (refine PoolAt.keep (by assumption) ?_ ?_ ?_; (walk_at "tr"); (walk_at "ne"); (walk_at "ne")))
/-- a draw: any number below n -/
def spTake : Sp := fun vs H Q _ => ∃ (t : Int) (p c : Addr) (n : Int), vs = [.ref p, .int n] ∧ PoolAt t H p c ∧ 0 < n ∧ n < 1073741824 ∧
  ∀ (d : Int) (H' : Hp), 0 ≤ d → d < n → Keep [p] H H' → PoolAt t H' p c → Q (.int d) H'
/-- the same where a digit is there -/
def spTake0 : Sp := fun vs H Q E => ∃ (t : Int) (p c : Addr) (n i a b : Int), vs = [.ref p, .int n] ∧ PoolAt t H p c ∧ H p = some (.lst [.ref c, .int i, .int a, .int b]) ∧ 0 < a ∧ 0 < n ∧ n < 1073741824 ∧
  ∀ (d : Int) (H' : Hp), 0 ≤ d → d < n → Keep [p] H H' → PoolAt t H' p c → Q (.int d) H'
theorem spTake.use {t : Int} {p c : Addr} {n : Int} {H : Hp} {Q : VK} {E : XK} (h : PoolAt t H p c) (h0 : 0 < n) (h1 : n < 1073741824)
    (q : ∀ (d : Int) (H' : Hp), 0 ≤ d → d < n → Keep [p] H H' → PoolAt t H' p c → Q (.int d) H') : spTake ([.ref p, .int n] ++ []) H Q E := ⟨t, p, c, n, rfl, h, h0, h1, q⟩
section
variable {P : Program} {w : World} {K : PySem.W.Frag} {mg : Str → Option Value} {base : Heap}
theorem lit4 {a b c d : V} : atI [a, b, c, d] 0 = some a ∧ atI [a, b, c, d] 1 = some b ∧ atI [a, b, c, d] 2 = some c ∧ atI [a, b, c, d] 3 = some d := ⟨rfl, rfl, rfl, rfl⟩
theorem sum_nn : ∀ {ns : List Int}, (∀ n ∈ ns, 0 ≤ n) → 0 ≤ ns.sum
  | [], _ => by simp
  | n :: ns, h => by
    have h1 := h n (by simp)
    have h2 := sum_nn (ns := ns) fun m hm => h m (by simp [hm])
    simp only [List.sum_cons]
    omega
def spPool (K : PySem.W.Frag) : Sp := fun vs H Q _ => ∃ (a : Addr) (ns : List Int), vs = [.ref a] ∧ SqL K H a (ns.map V.int) ∧ ns.length ≤ 63 ∧
  ∀ (t : Int) (p c : Addr) (H' : Hp), H p = none → H c = none → Keep [] H H' → PoolAt t H' p c → 0 ≤ t → Q (.ref p) H'
theorem c_l_pool (T : Txt K mg) : Cal P w K mg base CX0 "_law_pool" 1 ["_law_script"] (spPool K) := by
  refine T.d_l_pool.ok sc_l_pool (fun vs H Q E h => ?_) (fun f cdv A outer s H vs Q E hr h => ?_)
  · obtain ⟨a, ns, rfl, _⟩ := h
    rfl
  · obtain ⟨a, ns, rfl, hS, hl, k⟩ := h
    refine ⟨_, (pss_one (ps_ret (pe_lst (pa_cons (pe_lc (own := [("_law_cell", 1)]) (g := (gName 1)) (tt := tYes) rfl sc_l_pool.nd (k_sq K rfl (pv 0)) (blkOk_by (N := ["_law_script", "_law_cell"]) (sc := defScope s_l_pool) (by decide +kernel)) (fun _ _ _ _ _ => (pg_name (i := 1) sc_l_pool.nd rfl (Or.inl rfl))) (fun _ _ _ _ _ => pts_nil) (fun _ _ _ _ _ => (pe_ifExp (pt_cmpR (o_ge) (pv 1) pe_int (nomark _)) (pe_op (o_mul) pe_int (pv 1)) (pe_op (o_sub) (pe_op (o_mul) (pe_un o_neg pe_int) (pv 1)) pe_int)))) (pa_cons pe_int (pa_cons pe_int (pa_cons pe_int pa_nil))))))), ?_⟩
    refine i_st (σ' := [some _, none]) rfl ?_
    walk_at "go"
    refine i_lcW (walk_list (xs := ns.map V.int)) (fun D i acc H' => Keep [] H H' ∧ ∃ ms : List Int, acc = ms.map V.int ∧ ∀ n ∈ ms, 0 ≤ n) rfl ?_ ?_ ?_ ?_
    · exact fun D H' _ kp _ => ⟨kp, [], rfl, by simp⟩
    · exact fun D i acc H' _ _ _ f => f.1.sqL hS (by simp)
    · rintro D i x acc H0 H1 hi hD e l ⟨kp, ms, rfl, hp⟩ y
      obtain ⟨rfl, hx⟩ := y
      obtain ⟨n, rfl⟩ : ∃ n : Int, x = .int n := by
        obtain ⟨n, _, rfl⟩ := List.mem_map.mp (List.mem_of_getElem? hx); exact ⟨n, rfl⟩
      have hi' : i < 63 := by rw [List.length_map] at hi; omega
      have fin : ∀ z : Int, 0 ≤ z → LcY (fun D i acc H' => Keep [] H H' ∧ ∃ ms : List Int, acc = ms.map V.int ∧ ∀ n ∈ ms, 0 ≤ n) D i (.int z) H1 := fun z hz =>
        i_lcY e l (by omega) fun H3 k3 e3 => ⟨(kp.wid0.trans k3).cut hD, ms ++ [z], by simp, fun n hn => by
          rcases List.mem_append.mp hn with h | h
          · exact hp n h
          · rw [List.mem_singleton.mp h]; exact hz⟩
      walk_at "go"
      refine ⟨rfl, ?_⟩
      walk_at "go"
      refine i_ite (fun h => ?_) fun h => ?_
      · walk_at "go"
        exact fin _ (by omega)
      · walk_at "go"
        exact fin _ (by omega)
    · rintro D acc H1 hD e l ⟨kp, ms, rfl, hp⟩
      walk_at "go"
      refine i_new (sz (by simp)) fun p H2 hp0 k2 e2 => ?_
      have hDp := ne_of_none e hp0
      refine k _ p D H2 (kp.dom _ hp0) hD (kp.trans k2) ⟨⟨0, 0, 17, e2, by omega⟩, ⟨ms, k2.at e (by simp), hp, by simp at l; omega, rfl⟩, hDp⟩ (sum_nn fun n hn => hp n (List.mem_of_mem_take hn))
theorem c_l_takeN (T : Txt K mg) : Cal P w K mg base CX0 "_law_take" 1 ["_law_pool_here", "_law_many"] (fun _ _ _ _ => False) :=
  T.d_l_take.ok sc_l_take (fun _ _ _ _ h => h.elim) (fun _ _ _ _ _ _ _ _ _ _ h => h.elim)
theorem c_l_take0 (T : Txt K mg) : Cal P w K mg base CX0 "_law_take" 2 ["_law_pool_here", "_law_many"] spTake0 := by
  refine T.d_l_take.ok sc_l_take (fun vs H Q E h => ?_) (fun f cdv A outer s H vs Q E hr h => ?_)
  · obtain ⟨t, p, c, n, i, a, b, rfl, _⟩ := h
    rfl
  · obtain ⟨t, p, c, n, i, a, b, rfl, hP, hp, ha, h0, h1, k⟩ := h
    have self := c_l_takeN (P := P) (w := w) (base := base) T
    refine ⟨_, (pss_cons (ps_if (pt_cmpR (o_gt) (pe_ix (k_ix K rfl hr) (pv 0) pe_int (fun _ _ => rfl)) pe_int (nomark _)) (pss_cons (ps_set (i := 2) sc_l_take.nd rfl (Or.inl rfl) (pe_op (o_mod) (pe_callTy (c_int) rfl T.b_int (by decide +kernel) (pa_cons (pe_ix (k_ix K rfl hr) (pv 0) pe_int (fun _ _ => rfl)) pa_nil)) (pv 1)))
      (pss_cons (ps_asg (pe_op (o_div) (pe_ix (k_ix K rfl hr) (pv 0) pe_int (fun _ _ => rfl)) (pv 1)) (pg_sub (pv 0) pe_int (o_set hr)))
      (pss_one (ps_ret (pv 2))))) pss_nil)
      (pss_cons (ps_set (i := 3) sc_l_take.nd rfl (Or.inl rfl) pe_int)
      (pss_cut (ps_if (pt_cmpR (o_lt) (pe_ix (k_ix K rfl hr) (pv 0) pe_int (fun _ _ => rfl)) (pe_callB (k_len K rfl) rfl T.b_len (by decide +kernel) (pa_cons (pe_ix (k_ix K rfl hr) (pv 0) pe_int (fun _ _ => rfl)) pa_nil)) (nomark _)) (pss_one (ps_set (i := 3) sc_l_take.nd rfl (Or.inl rfl) (pe_ix (k_ix K rfl hr) (pe_ix (k_ix K rfl hr) (pv 0) pe_int (fun _ _ => rfl)) (pe_ix (k_ix K rfl hr) (pv 0) pe_int (fun _ _ => rfl)) (fun _ _ => rfl)))) pss_nil)
      (pss_cons (ps_asg (pe_op (k_add K rfl) (pe_ix (k_ix K rfl hr) (pv 0) pe_int (fun _ _ => rfl)) pe_int) (pg_sub (pv 0) pe_int (o_set hr)))
      (pss_cons (ps_if (pt_cmpR (o_ge) (pv 3) (pe_op (o_pow) pe_int pe_int) (nomark _)) (pss_cons (ps_asg (pe_op (o_div) (pv 3) pe_int) (pg_sub (pv 0) pe_int (o_set hr)))
      (pss_one (ps_ret (pe_cal self hr (by omega) rfl pass0 (pa_cons (pv 0) (pa_cons (pv 1) pa_nil)))))) pss_nil)
      (pss_cons (ps_asg (pe_op (o_mod) (pe_callTy (c_int) rfl T.b_int (by decide +kernel) (pa_cons (pe_op (k_add K rfl) (pe_op (k_add K rfl) (pe_op (o_mul) (pe_ix (k_ix K rfl hr) (pv 0) pe_int (fun _ _ => rfl)) pe_int) (pe_op (o_mul) (pv 3) pe_int)) (pe_op (o_mul) (pe_ix (k_ix K rfl hr) (pv 0) pe_int (fun _ _ => rfl)) pe_int)) pa_nil)) pe_int) (pg_sub (pv 0) pe_int (o_set hr)))
      (pss_cons (ps_set (i := 4) sc_l_take.nd rfl (Or.inl rfl) (pe_op (o_mod) (pe_callTy (c_int) rfl T.b_int (by decide +kernel) (pa_cons (pe_op (k_add K rfl) (pe_op (k_add K rfl) (pe_op (o_mul) (pe_ix (k_ix K rfl hr) (pv 0) pe_int (fun _ _ => rfl)) (pe_ix (k_ix K rfl hr) (pv 0) pe_int (fun _ _ => rfl))) (pe_op (o_mul) (pe_ix (k_ix K rfl hr) (pv 0) pe_int (fun _ _ => rfl)) pe_int)) pe_int) pa_nil)) pe_int))
      (pss_one (ps_ret (pe_op (o_mod) (pe_callTy (c_int) rfl T.b_int (by decide +kernel) (pa_cons (pe_op (o_div) (pv 4) pe_int) pa_nil)) (pv 1))))))))))), ?_⟩
    refine i_st (σ' := [some _, some _, none, none, none]) rfl ?_
    have hq : SqL K H p [.ref c, .int i, .int a, .int b] := SqL.of hp
    walk_at "go"
    refine i_setL hp rfl fun H1 k1 e1 => ?_
    walk_at "go"
    obtain ⟨⟨i', a', b', e', r⟩, hc, ne⟩ := hP
    rw [hp] at e'
    injection e' with e'
    injection e' with e'
    simp only [List.cons.injEq, V.int.injEq, V.ref.injEq, true_and, and_true] at e'
    obtain ⟨rfl, rfl, rfl⟩ := e'
    obtain ⟨ms, e3, r3⟩ := hc
    refine k _ _ (Int.emod_nonneg _ (by omega)) (Int.emod_lt_of_pos _ h0) k1 ⟨⟨i, a / n, b, e1, r.1, Int.ediv_nonneg (by omega) (by omega), r.2.2⟩, ⟨ms, k1.at e3 (by simp [ne]), r3⟩, ne⟩
theorem c_l_take (T : Txt K mg) : Cal P w K mg base CX0 "_law_take" 3 ["_law_pool_here", "_law_many"] spTake := by
  refine T.d_l_take.ok sc_l_take (fun vs H Q E h => ?_) (fun f cdv A outer s H vs Q E hr h => ?_)
  · obtain ⟨t, p, c, n, rfl, _⟩ := h
    rfl
  · obtain ⟨t, p, c, n, rfl, hP, h0, h1, k⟩ := h
    have self := c_l_take0 (P := P) (w := w) (base := base) T
    refine ⟨_, (pss_cons (ps_if (pt_cmpR (o_gt) (pe_ix (k_ix K rfl hr) (pv 0) pe_int (fun _ _ => rfl)) pe_int (nomark _)) (pss_cons (ps_set (i := 2) sc_l_take.nd rfl (Or.inl rfl) (pe_op (o_mod) (pe_callTy (c_int) rfl T.b_int (by decide +kernel) (pa_cons (pe_ix (k_ix K rfl hr) (pv 0) pe_int (fun _ _ => rfl)) pa_nil)) (pv 1)))
      (pss_cons (ps_asg (pe_op (o_div) (pe_ix (k_ix K rfl hr) (pv 0) pe_int (fun _ _ => rfl)) (pv 1)) (pg_sub (pv 0) pe_int (o_set hr)))
      (pss_one (ps_ret (pv 2))))) pss_nil)
      (pss_cons (ps_set (i := 3) sc_l_take.nd rfl (Or.inl rfl) pe_int)
      (pss_cut (ps_if (pt_cmpR (o_lt) (pe_ix (k_ix K rfl hr) (pv 0) pe_int (fun _ _ => rfl)) (pe_callB (k_len K rfl) rfl T.b_len (by decide +kernel) (pa_cons (pe_ix (k_ix K rfl hr) (pv 0) pe_int (fun _ _ => rfl)) pa_nil)) (nomark _)) (pss_one (ps_set (i := 3) sc_l_take.nd rfl (Or.inl rfl) (pe_ix (k_ix K rfl hr) (pe_ix (k_ix K rfl hr) (pv 0) pe_int (fun _ _ => rfl)) (pe_ix (k_ix K rfl hr) (pv 0) pe_int (fun _ _ => rfl)) (fun _ _ => rfl)))) pss_nil)
      (pss_cons (ps_asg (pe_op (k_add K rfl) (pe_ix (k_ix K rfl hr) (pv 0) pe_int (fun _ _ => rfl)) pe_int) (pg_sub (pv 0) pe_int (o_set hr)))
      (pss_cons (ps_if (pt_cmpR (o_ge) (pv 3) (pe_op (o_pow) pe_int pe_int) (nomark _)) (pss_cons (ps_asg (pe_op (o_div) (pv 3) pe_int) (pg_sub (pv 0) pe_int (o_set hr)))
      (pss_one (ps_ret (pe_cal self hr (by omega) rfl pass0 (pa_cons (pv 0) (pa_cons (pv 1) pa_nil)))))) pss_nil)
      (pss_cons (ps_asg (pe_op (o_mod) (pe_callTy (c_int) rfl T.b_int (by decide +kernel) (pa_cons (pe_op (k_add K rfl) (pe_op (k_add K rfl) (pe_op (o_mul) (pe_ix (k_ix K rfl hr) (pv 0) pe_int (fun _ _ => rfl)) pe_int) (pe_op (o_mul) (pv 3) pe_int)) (pe_op (o_mul) (pe_ix (k_ix K rfl hr) (pv 0) pe_int (fun _ _ => rfl)) pe_int)) pa_nil)) pe_int) (pg_sub (pv 0) pe_int (o_set hr)))
      (pss_cons (ps_set (i := 4) sc_l_take.nd rfl (Or.inl rfl) (pe_op (o_mod) (pe_callTy (c_int) rfl T.b_int (by decide +kernel) (pa_cons (pe_op (k_add K rfl) (pe_op (k_add K rfl) (pe_op (o_mul) (pe_ix (k_ix K rfl hr) (pv 0) pe_int (fun _ _ => rfl)) (pe_ix (k_ix K rfl hr) (pv 0) pe_int (fun _ _ => rfl))) (pe_op (o_mul) (pe_ix (k_ix K rfl hr) (pv 0) pe_int (fun _ _ => rfl)) pe_int)) pe_int) pa_nil)) pe_int))
      (pss_one (ps_ret (pe_op (o_mod) (pe_callTy (c_int) rfl T.b_int (by decide +kernel) (pa_cons (pe_op (o_div) (pv 4) pe_int) pa_nil)) (pv 1))))))))))), ?_⟩
    refine i_st (σ' := [some _, some _, none, none, none]) rfl ?_
    obtain ⟨⟨i, a, b, hp, hi, ha, hb, hb2⟩, ⟨ms, e3, hms, hlen, ht⟩, ne⟩ := id hP
    have hq : SqL K H p [.ref c, .int i, .int a, .int b] := SqL.of hp
    walk_at "go"
    refine i_ite (fun hz => ?_) fun hz => ?_
    · walk_at "go"
      refine i_setL hp rfl fun H1 k1 e1 => ?_
      walk_at "go"
      exact k _ _ (Int.emod_nonneg _ (by omega)) (Int.emod_lt_of_pos _ h0) k1 ⟨⟨i, a / n, b, e1, hi, Int.ediv_nonneg (by omega) (by omega), hb, hb2⟩, ⟨ms, k1.at e3 (by simp [ne]), hms, hlen, ht⟩, ne⟩
    · walk_at "go"
      refine i_cut (fun σ' H' => H' = H ∧ ∃ z : Int, 0 ≤ z ∧ σ' = [some (.ref p), some (.int n), none, some (.int z), none]) ?_ ?_
      · have hc : SqL K H c (ms.map V.int) := SqL.of e3
        walk_at "go"
        refine i_ite (fun hl => ?_) fun hl => ?_
        · walk_at "go"
          have hl' : i < (ms.length : Int) := by simpa using hl
          obtain ⟨z, hz1, hz2⟩ : ∃ z, ms[i.toNat]? = some z ∧ z ∈ ms := ⟨ms[i.toNat]'(by omega), by simp, List.getElem_mem _⟩
          refine i_ixL hc (v := .int z) ?_ ?_
          · exact atI_of hi (by rw [List.getElem?_map, hz1]; rfl)
          · walk_at "go"
            exact ⟨rfl, z, hms z hz2, rfl⟩
        · walk_at "go"
          exact ⟨rfl, 0, by omega, rfl⟩
      · rintro σ' H' ⟨rfl, z, hz, rfl⟩
        walk_at "go"
        refine i_setL hp rfl fun H1 k1 e1 => ?_
        have e1 : H1 p = some (.lst [.ref c, .int (i + 1), .int a, .int b]) := e1
        have hq1 : SqL K H1 p _ := SqL.of e1
        walk_at "go"
        refine i_ite (fun hz => ?_) fun hz => ?_
        · walk_at "go"
          refine i_setL e1 rfl fun H2 k2 e2 => ?_
          walk_at "go"
          have e2 : H2 p = some (.lst [.ref c, .int (i + 1), .int (z / 2), .int b]) := e2
          have hz18 : (10 : Int) ^ (18 : Int).toNat = 1000000000000000000 := by decide
          have k12 := k1.trans k2
          have P2 : PoolAt t H2 p c := ⟨⟨i + 1, z / 2, b, e2, by omega, by omega, hb, hb2⟩, ⟨ms, k12.at e3 (by simp [ne]), hms, hlen, ht⟩, ne⟩
          exact ⟨t, p, c, n, _, _, _, rfl, P2, e2, by omega, h0, h1, fun d H3 d0 d1 k3 P3 => k d H3 d0 d1 (k12.trans k3) P3⟩
        · walk_at "go"
          refine i_setL e1 rfl fun H2 k2 e2 => ?_
          have e2 : H2 p = some (.lst [.ref c, .int (i + 1), .int a, .int ((b * 48271 + z * 69621 + (i + 1) * 613) % 2147483647)]) := e2
          have hq2 : SqL K H2 p _ := SqL.of e2
          have k12 := k1.trans k2
          have P2 : PoolAt t H2 p c := ⟨⟨i + 1, a, _, e2, by omega, by omega, by omega, by omega⟩, ⟨ms, k12.at e3 (by simp [ne]), hms, hlen, ht⟩, ne⟩
          walk_at "go"
          exact k _ _ (Int.emod_nonneg _ (by omega)) (Int.emod_lt_of_pos _ h0) k12 P2
end
/-- the same plain data, d deep at most -/
def flatD (x : V) : Prop := x = .non ∨ (∃ b, x = .bl b) ∨ (∃ n, x = .int n) ∨ ∃ z, x = .str z
def DVt (K : PySem.W.Frag) (R : Hp → V → V → Prop) (H : Hp) (x y : V) : Prop := (x = y ∧ flatD x) ∨
    ∃ a b xs ys, x = .ref a ∧ y = .ref b ∧ ((SqT K H a xs ∧ SqT K H b ys) ∨ (SqL K H a xs ∧ SqL K H b ys)) ∧ Al (R H) xs ys ∧ xs.length ≤ 1000000
def DV (K : PySem.W.Frag) : Nat → Hp → V → V → Prop
  | 0 => DVt K fun _ _ _ => False
  | d + 1 => DVt K (DV K d)
def spSame (R : Hp → V → V → Prop) : Sp := fun vs H Q _ => ∃ x y, vs = [x, y] ∧ R H x y ∧ ∀ H', Keep [] H H' → Q (.bl true) H'
theorem DVt.keep {K : PySem.W.Frag} {R : Hp → V → V → Prop} (hR : ∀ H H' x y, Keep [] H H' → R H x y → R H' x y) : ∀ H H' x y, Keep [] H H' → DVt K R H x y → DVt K R H' x y := by
  rintro H H' x y k (h | ⟨a, b, xs, ys, e1, e2, h, r, l⟩)
  · exact .inl h
  · refine .inr ⟨a, b, xs, ys, e1, e2, ?_, r.imp fun u v => hR H H' u v k, l⟩
    rcases h with ⟨h1, h2⟩ | ⟨h1, h2⟩
    · exact .inl ⟨k.sqT h1, k.sqT h2⟩
    · exact .inr ⟨k.sqL h1 (by simp), k.sqL h2 (by simp)⟩
theorem DV.keep {K : PySem.W.Frag} : ∀ d, ∀ H H' x y, Keep [] H H' → DV K d H x y → DV K d H' x y
  | 0 => DVt.keep fun _ _ _ _ _ h => h
  | d + 1 => DVt.keep (DV.keep d)
def spInt : Sp := fun vs H Q _ => ∃ x, vs = [x] ∧ ((∃ n, x = .int n) ∧ Q (.bl true) H ∨ (x = .non ∨ (∃ b, x = .bl b) ∨ (∃ z, x = .str z)) ∧ Q (.bl false) H)
section
variable {P : Program} {w : World} {K : PySem.W.Frag} {mg : Str → Option Value} {base : Heap}
theorem c_l_is_integer (T : Txt K mg) : Cal P w K mg base CX0 "_law_is_integer" 1 ["_law_actual"] spInt := by
  refine T.d_l_is_integer.ok sc_l_is_integer (fun vs H Q E h => ?_) (fun f cdv A outer s H vs Q E hr h => ?_)
  · obtain ⟨x, rfl, _⟩ := h
    rfl
  · obtain ⟨x, rfl, h⟩ := h
    refine ⟨_, (pss_one (ps_ret (pe_and (pe_callB (k_isi K rfl) rfl T.b_isinstance (by decide +kernel) (pa_cons (pv 0) (pa_cons (pe_bltn (v := .ty "int") (u := .type "int") rfl T.b_int (by decide +kernel) rfl) pa_nil))) (pe_one (pe_not (pe_callB (k_isi K rfl) rfl T.b_isinstance (by decide +kernel) (pa_cons (pv 0) (pa_cons (pe_bltn (v := .ty "bool") (u := .type "bool") rfl T.b_bool (by decide +kernel) rfl) pa_nil)))))))), ?_⟩
    refine i_st (σ' := [some _]) rfl ?_
    rcases h with ⟨⟨n, rfl⟩, k⟩ | ⟨rfl | ⟨b, rfl⟩ | ⟨z, rfl⟩, k⟩
    all_goals
      walk_at "go"
      exact k
theorem same_step (T : Txt K mg) {k : Nat} {R : Hp → V → V → Prop} (hk : 1 ≤ k) (hR : ∀ H H' x y, Keep [] H H' → R H x y → R H' x y)
    (self : Cal P w K mg base CX0 "_law_same" k ["_law_actual", "_law_due_here"] (spSame R)) : Cal P w K mg base CX0 "_law_same" (k + 1) ["_law_actual", "_law_due_here"] (spSame (DVt K R)) := by
  refine T.d_l_same.ok sc_l_same (fun vs H Q E h => ?_) (fun f cdv A outer s H vs Q E hr h => ?_)
  · obtain ⟨x, y, rfl, _⟩ := h
    rfl
  · obtain ⟨x, y, rfl, h, q⟩ := h
    refine ⟨_, (pss_cons (ps_if (k_tr K rfl (pe_callB (k_isi K rfl) rfl T.b_isinstance (by decide +kernel) (pa_cons (pv 1) (pa_cons (pe_bltn (v := .ty "tuple") (u := .type "tuple") rfl T.b_tuple (by decide +kernel) rfl) pa_nil)))) (pss_cons (ps_if (PW.pt (pw_or (pt_not (k_tr K rfl (pe_callB (k_isi K rfl) rfl T.b_isinstance (by decide +kernel) (pa_cons (pv 0) (pa_cons (pe_bltn (v := .ty "tuple") (u := .type "tuple") rfl T.b_tuple (by decide +kernel) rfl) pa_nil))))) (pw_or1 (pt_cmpR (k_ne K rfl hr) (pe_callB (k_len K rfl) rfl T.b_len (by decide +kernel) (pa_cons (pv 0) pa_nil)) (pe_callB (k_len K rfl) rfl T.b_len (by decide +kernel) (pa_cons (pv 1) pa_nil)) (nomark _))))) (pss_one (ps_ret pe_bl)) pss_nil)
      (pss_one (ps_ret (pe_callB (k_all K rfl rfl) rfl T.b_all (by decide +kernel) (pa_cons (pe_lc (own := [("_law_k", 2)]) (g := (gName 2)) (tt := tYes) rfl sc_l_same.nd (pi_range1 rfl T.b_range (pa_cons (pe_callB (k_len K rfl) rfl T.b_len (by decide +kernel) (pa_cons (pv 1) pa_nil)) pa_nil)) (blkOk_by (N := ["_law_actual", "_law_due_here", "_law_k"]) (sc := defScope s_l_same) (by decide +kernel)) (fun _ _ _ _ _ => (pg_name (i := 2) sc_l_same.nd rfl (Or.inl rfl))) (fun _ _ _ _ _ => pts_nil) (fun _ _ _ _ _ => (pe_cal self hr (by omega) rfl pass0 (pa_cons (pe_ix (k_ix K rfl hr) (pv 0) (pv 2) (fun _ _ => rfl)) (pa_cons (pe_ix (k_ix K rfl hr) (pv 1) (pv 2) (fun _ _ => rfl)) pa_nil))))) pa_nil))))) pss_nil)
      (pss_cons (ps_if (k_tr K rfl (pe_callB (k_isi K rfl) rfl T.b_isinstance (by decide +kernel) (pa_cons (pv 1) (pa_cons (pe_bltn (v := .ty "list") (u := .type "list") rfl T.b_list (by decide +kernel) rfl) pa_nil)))) (pss_cons (ps_if (PW.pt (pw_or (pt_not (k_tr K rfl (pe_callB (k_isi K rfl) rfl T.b_isinstance (by decide +kernel) (pa_cons (pv 0) (pa_cons (pe_bltn (v := .ty "list") (u := .type "list") rfl T.b_list (by decide +kernel) rfl) pa_nil))))) (pw_or1 (pt_cmpR (k_ne K rfl hr) (pe_callB (k_len K rfl) rfl T.b_len (by decide +kernel) (pa_cons (pv 0) pa_nil)) (pe_callB (k_len K rfl) rfl T.b_len (by decide +kernel) (pa_cons (pv 1) pa_nil)) (nomark _))))) (pss_one (ps_ret pe_bl)) pss_nil)
      (pss_one (ps_ret (pe_callB (k_all K rfl rfl) rfl T.b_all (by decide +kernel) (pa_cons (pe_lc (own := [("_law_k", 2)]) (g := (gName 2)) (tt := tYes) rfl sc_l_same.nd (pi_range1 rfl T.b_range (pa_cons (pe_callB (k_len K rfl) rfl T.b_len (by decide +kernel) (pa_cons (pv 1) pa_nil)) pa_nil)) (blkOk_by (N := ["_law_actual", "_law_due_here", "_law_k"]) (sc := defScope s_l_same) (by decide +kernel)) (fun _ _ _ _ _ => (pg_name (i := 2) sc_l_same.nd rfl (Or.inl rfl))) (fun _ _ _ _ _ => pts_nil) (fun _ _ _ _ _ => (pe_cal self hr (by omega) rfl pass0 (pa_cons (pe_ix (k_ix K rfl hr) (pv 0) (pv 2) (fun _ _ => rfl)) (pa_cons (pe_ix (k_ix K rfl hr) (pv 1) (pv 2) (fun _ _ => rfl)) pa_nil))))) pa_nil))))) pss_nil)
      (pss_cons (ps_if (pt_cmpR o_isN (pv 1) pe_non (nomark _)) (pss_one (ps_ret (pe_cmpR o_isN (pv 0) pe_non (nomark _)))) pss_nil)
      (pss_cons (ps_if (k_tr K rfl (pe_callB (k_isi K rfl) rfl T.b_isinstance (by decide +kernel) (pa_cons (pv 1) (pa_cons (pe_bltn (v := .ty "bool") (u := .type "bool") rfl T.b_bool (by decide +kernel) rfl) pa_nil)))) (pss_one (ps_ret (pe_and (pe_callB (k_isi K rfl) rfl T.b_isinstance (by decide +kernel) (pa_cons (pv 0) (pa_cons (pe_bltn (v := .ty "bool") (u := .type "bool") rfl T.b_bool (by decide +kernel) rfl) pa_nil))) (pe_one (pe_cmpR (k_eq K rfl hr) (pv 0) (pv 1) (nomark _)))))) pss_nil)
      (pss_cons (ps_if (k_tr K rfl (pe_callB (k_isi K rfl) rfl T.b_isinstance (by decide +kernel) (pa_cons (pv 1) (pa_cons (pe_bltn (v := .ty "str") (u := .type "str") rfl T.b_str (by decide +kernel) rfl) pa_nil)))) (pss_one (ps_ret (pe_and (pe_callB (k_isi K rfl) rfl T.b_isinstance (by decide +kernel) (pa_cons (pv 0) (pa_cons (pe_bltn (v := .ty "str") (u := .type "str") rfl T.b_str (by decide +kernel) rfl) pa_nil))) (pe_one (pe_cmpR (k_eq K rfl hr) (pv 0) (pv 1) (nomark _)))))) pss_nil)
      (pss_one (ps_ret (pe_and (pe_cal (c_l_is_integer T) hr (by omega) rfl pass0 (pa_cons (pv 0) pa_nil)) (pe_one (pe_cmpR (k_eq K rfl hr) (pv 0) (pv 1) (nomark _))))))))))), ?_⟩
    refine i_st (σ' := [some _, some _, none]) rfl ?_
    have q0 := q H Keep.rfl'
    have loop : ∀ (a b : Addr) (xs ys : List V), ((SqT K H a xs ∧ SqT K H b ys) ∨ (SqL K H a xs ∧ SqL K H b ys)) → Al (R H) xs ys → xs.length ≤ 1000000 →
        LcK (gName 2) tYes (tCall (spSame R) [] E0 (tCons (tOp (uIx K) (tVar 0) (tVar 2)) (tCons (tOp (uIx K) (tVar 1) (tVar 2)) tNil))) [2] [some (.ref a), some (.ref b), none]
          (fun x H1 => tNil [some (.ref a), some (.ref b), none] H1 fun xs H2 => rAll K (x :: xs) H2 Q) (Itr 0 ys.length) H := by
      intro a b xs ys hab hal hlen
      refine i_lcW (walk_rng0 (n := ys.length)) (fun D i acc H' => Keep [] H H' ∧ acc = List.replicate i (.bl true)) (by walk_at "st") ?_ ?_ ?_ ?_
      · exact fun D H' _ kp _ => ⟨kp, rfl⟩
      · exact fun D i acc H' _ _ _ f => trivial
      · rintro D i x acc H0 H1 hi hD e l ⟨kp, rfl⟩ ⟨rfl, rfl⟩
        walk_at "go"
        refine ⟨rfl, ?_⟩
        walk_at "go"
        have h1 := hal.len
        obtain ⟨v, hv⟩ : ∃ v, ys[i]? = some v := ⟨ys[i], by simp⟩
        obtain ⟨u, hu⟩ : ∃ u, xs[i]? = some u := ⟨xs[i]'(by omega), by simp⟩
        obtain ⟨v', hv', hr1⟩ := hal.get hu
        rw [hv] at hv'
        injection hv' with hv'
        subst hv'
        have fin : spSame R ([u, v] ++ []) H1 (LcY (fun D i acc H' => Keep [] H H' ∧ acc = List.replicate i (.bl true)) D i) E0 :=
          ⟨u, v, rfl, hR _ _ _ _ kp hr1, fun H2 k2 => i_lcY (k2.at e (by simp)) l (by omega) fun H3 k3 e3 => ⟨((kp.trans k2).wid0.trans k3).cut hD, by rw [List.replicate_succ']⟩⟩
        rcases hab with ⟨ha, hb⟩ | ⟨ha, hb⟩
        · refine i_ixT (kp.sqT ha) (atI_nat hu) ?_
          walk_at "go"
          refine i_ixT (kp.sqT hb) (atI_nat hv) ?_
          walk_at "go"
          exact fin
        · refine i_ixL (kp.sqL ha (by simp)) (atI_nat hu) ?_
          walk_at "go"
          refine i_ixL (kp.sqL hb (by simp)) (atI_nat hv) ?_
          walk_at "go"
          exact fin
      · rintro D acc H1 hD e l ⟨kp, rfl⟩
        walk_at "go"
        refine ⟨D, List.replicate ys.length true, rfl, SqL.of (by rw [e]; simp), ?_⟩
        rw [show (List.replicate ys.length true).all id = true by simp]
        exact q _ kp
    rcases h with ⟨rfl, rfl | ⟨b, rfl⟩ | ⟨n, rfl⟩ | ⟨z, rfl⟩⟩ | ⟨a, b, xs, ys, rfl, rfl, hab, hal, hlen⟩
    · walk_at "go"
      exact q0
    · walk_at "go"
      rw [decide_eq_true rfl]
      exact q0
    · walk_at "go"
      refine ⟨_, rfl, .inl ⟨⟨n, rfl⟩, ?_⟩⟩
      walk_at "go"
      rw [decide_eq_true rfl]
      exact q0
    · walk_at "go"
      rw [decide_eq_true rfl]
      exact q0
    · have hl := hal.len
      rcases id hab with ⟨ha, hb⟩ | ⟨ha, hb⟩
      · walk_at "go"
        refine i_negB (by simp [hl]) ?_
        walk_at "go"
        exact loop a b xs ys hab hal hlen
      · walk_at "go"
        refine i_negB (by simp [hl]) ?_
        walk_at "go"
        exact loop a b xs ys hab hal hlen
theorem c_l_sameN (T : Txt K mg) : Cal P w K mg base CX0 "_law_same" 1 ["_law_actual", "_law_due_here"] (spSame fun _ _ _ => False) :=
  T.d_l_same.ok sc_l_same (fun _ _ _ _ ⟨_, _, _, h, _⟩ => h.elim) (fun _ _ _ _ _ _ _ _ _ _ ⟨_, _, _, h, _⟩ => h.elim)
theorem c_l_same (T : Txt K mg) : ∀ d, Cal P w K mg base CX0 "_law_same" (d + 2) ["_law_actual", "_law_due_here"] (spSame (DV K d))
  | 0 => same_step T (by omega) (fun _ _ _ _ _ h => h) (c_l_sameN T)
  | d + 1 => same_step T (by omega) (DV.keep d) (c_l_same T d)
end
/-! ### words -/
def wIx (t n : Int) : Int := (n * (1 + t % 22) + t) % 23
def Wok (w : Str) : Prop := 1 ≤ w.length ∧ w.length ≤ 8 ∧ (∀ c ∈ w.cps.toList, 97 ≤ c ∧ c ≤ 122) ∧ w ≠ "zzzzzzzz"
/-- the law's strange word is no drawn one -/
theorem Wok.ne_z {w : Str} (h : Wok w) : w ≠ "zzzzzzzz" := h.2.2.2
def Wd (t n : Int) (w : Str) : Prop := Wok w ∧ w.cps.toList.head? = some (97 + (wIx t n).toNat)
theorem letter {i : Int} (h0 : 0 ≤ i) (h1 : i < 26) : atI (Str.ofString "abcdefghijklmnopqrstuvwxyz").cps.toList i = some (97 + i.toNat) := by
  have z : ∀ j : Nat, j < 26 → (Str.ofString "abcdefghijklmnopqrstuvwxyz").cps.toList[j]? = some (97 + j) := by decide +kernel
  exact atI_of h0 (z _ (by omega))
def spWord : Sp := fun vs H Q _ => ∃ (t : Int) (p c : Addr) (n : Int), vs = [.ref p, .int n] ∧ PoolAt t H p c ∧
  ∀ (x : Str) (H' : Hp), Wd t n x → Keep [p] H H' → PoolAt t H' p c → Q (.str x) H'
theorem spWord.use {t : Int} {p c : Addr} {n : Int} {H : Hp} {Q : VK} {E : XK} (h : PoolAt t H p c) (q : ∀ (x : Str) (H' : Hp), Wd t n x → Keep [p] H H' → PoolAt t H' p c → Q (.str x) H') : spWord ([.ref p, .int n] ++ []) H Q E := ⟨t, p, c, n, rfl, h, q⟩
section
variable {P : Program} {w : World} {K : PySem.W.Frag} {mg : Str → Option Value} {base : Heap}
theorem c_l_word (T : Txt K mg) : Cal P w K mg base CX0 "_law_word" 4 ["_law_pool_here", "_law_number"] spWord := by
  refine T.d_l_word.ok sc_l_word (fun vs H Q E h => ?_) (fun f cdv A outer s H vs Q E hr h => ?_)
  · obtain ⟨t, p, c, n, rfl, _⟩ := h
    rfl
  · obtain ⟨t, p, c, n, rfl, hP, k⟩ := h
    refine ⟨_, (pss_cons (ps_set (i := 2) sc_l_word.nd rfl (Or.inl rfl) pe_str)
      (pss_cons (ps_set (i := 3) sc_l_word.nd rfl (Or.inl rfl) (pe_callB (k_sum K rfl rfl) rfl T.b_sum (by decide +kernel) (pa_cons (pe_slice (k_sl K rfl) (pe_ix (k_ix K rfl hr) (pv 0) pe_int (fun _ _ => rfl)) po_none (po_some pe_int)) pa_nil)))
      (pss_cons (ps_set (i := 4) sc_l_word.nd rfl (Or.inl rfl) (pe_ix (k_ix K rfl hr) (pv 2) (pe_op (o_mod) (pe_callTy (c_int) rfl T.b_int (by decide +kernel) (pa_cons (pe_op (k_add K rfl) (pe_op (o_mul) (pv 1) (pe_op (k_add K rfl) pe_int (pe_op (o_mod) (pe_callTy (c_int) rfl T.b_int (by decide +kernel) (pa_cons (pv 3) pa_nil)) pe_int))) (pv 3)) pa_nil)) pe_int) (fun _ _ => rfl)))
      (pss_cons (ps_for PassesOwn.never rfl (pi_range1 rfl T.b_range (pa_cons (pe_op (o_mul) (pe_op (o_div) (pe_cal (c_l_take T) hr (by omega) rfl pass0 (pa_cons (pv 0) (pa_cons pe_int pa_nil))) pe_int) (pe_cal (c_l_take T) hr (by omega) rfl pass0 (pa_cons (pv 0) (pa_cons pe_int pa_nil)))) pa_nil)) (pg_name (i := 5) sc_l_word.nd rfl (Or.inl rfl)) (pss_one (ps_set (i := 4) sc_l_word.nd rfl (Or.inl rfl) (pe_op (k_add K rfl) (pv 4) (pe_ix (k_ix K rfl hr) (pv 2) (pe_cal (c_l_take T) hr (by omega) rfl pass0 (pa_cons (pv 0) (pa_cons pe_int pa_nil))) (fun _ _ => rfl))))))
      (pss_one (ps_ret (pv 4))))))), ?_⟩
    refine i_st (σ' := [some _, some _, none, none, none, none]) rfl ?_
    obtain ⟨⟨i, a, b, hp, hi, ha, hb, hb2⟩, ⟨ms, e3, hms, hlen, ht⟩, ne⟩ := id hP
    have hq : SqL K H p [.ref c, .int i, .int a, .int b] := SqL.of hp
    have hc : SqL K H c _ := SqL.of e3
    walk_at "go"
    refine i_slL hc fun l H1 _ k1 e1 => ?_
    rw [cut_to _ (by decide), ← List.map_take] at e1
    walk_at "go"
    refine ⟨l, _, rfl, SqL.of e1, ?_⟩
    rw [show (5 : Int).toNat = 5 from rfl, ht]
    walk_at "go"
    refine i_ixS (sz (by decide +kernel)) (letter (i := wIx t n) ?_ ?_) ?_
    · exact Int.emod_nonneg _ (by omega)
    · have := Int.emod_lt_of_pos (n * (1 + t % 22) + t) (show (0 : Int) < 23 by omega)
      unfold wIx
      omega
    have P1 : PoolAt t H1 p c := hP.keep k1 (by simp) (by simp)
    walk_at "go"
    refine spTake.use P1 (by omega) (by omega) fun d1 H2 d10 d11 k2 P2 => ?_
    walk_at "go"
    refine spTake.use P2 (by omega) (by omega) fun d2 H3 d20 d21 k3 P3 => ?_
    walk_at "go"
    have hm : 0 ≤ d1 / 6 * d2 ∧ d1 / 6 * d2 ≤ 7 := by
      have h6 : d1 / 6 = 0 ∨ d1 / 6 = 1 := by omega
      rcases h6 with h6 | h6 <;> rw [h6] <;> omega
    refine i_rng1 (by omega) (by omega) ?_
    refine i_forW (walk_rng0 (n := (d1 / 6 * d2).toNat)) (fun i σ H' => ∃ o x, σ = [some (.ref p), some (.int n), some (.str (Str.ofString "abcdefghijklmnopqrstuvwxyz")), some (.int t), some (.str x), o] ∧
      (1 ≤ x.length ∧ x.length ≤ 1 + i ∧ (∀ c ∈ x.cps.toList, 97 ≤ c ∧ c ≤ 122)) ∧ x.cps.toList.head? = some (97 + (wIx t n).toNat) ∧ Keep [p] H H' ∧ PoolAt t H' p c) ?_ ?_ ?_ ?_
    · refine ⟨none, _, rfl, ⟨by simp [Str.length], by simp [Str.length], ?_⟩, by simp, (k1.wid0.trans k2).trans k3, P3⟩
      intro c hc
      have h1 := Int.emod_lt_of_pos (n * (1 + t % 22) + t) (show (0 : Int) < 23 by omega)
      have h0 := Int.emod_nonneg (n * (1 + t % 22) + t) (show (23 : Int) ≠ 0 by omega)
      simp only [List.mem_singleton] at hc
      unfold wIx at hc
      omega
    · exact fun _ _ _ _ _ => trivial
    · rintro i x σ H4 H5 hi ⟨o, y, rfl, ⟨hy1, hy2, hy3⟩, hy4, k4, P4⟩ ⟨rfl, rfl⟩
      walk_at "go"
      refine spTake.use P4 (by omega) (by omega) fun d3 H6 d30 d31 k5 P5 => ?_
      walk_at "go"
      refine i_ixS (sz (by decide +kernel)) (letter d30 d31) ?_
      refine i_addS (sz (by simp only [Str.length] at *; simp; omega)) ?_
      walk_at "go"
      refine ⟨_, _, rfl, ⟨?_, ?_, ?_⟩, ?_, k4.trans k5, P5⟩
      · show 1 ≤ (y.cps ++ #[97 + d3.toNat]).size
        simp
      · show (y.cps ++ #[97 + d3.toNat]).size ≤ _
        simp only [Str.length] at hy2
        simp
        omega
      · intro c hc
        have hc : c ∈ (y.cps ++ #[97 + d3.toNat]).toList := hc
        rw [Array.toList_append] at hc
        rcases List.mem_append.mp hc with h | h
        · exact hy3 c h
        · simp only [List.mem_singleton] at h
          omega
      · show (y.cps ++ #[97 + d3.toNat]).toList.head? = _
        rw [Array.toList_append, List.head?_append, hy4]
        rfl
    · rintro σ H4 ⟨o, y, rfl, ⟨hy1, hy2, hy3⟩, hy4, k4, P4⟩
      walk_at "go"
      refine k y H4 ⟨⟨hy1, by omega, hy3, ?_⟩, hy4⟩ k4 P4
      intro e
      rw [e] at hy4
      have := Int.emod_lt_of_pos (n * (1 + t % 22) + t) (show (0 : Int) < 23 by omega)
      have h122 : ("zzzzzzzz" : Str).cps.toList.head? = some 122 := by decide +kernel
      rw [h122] at hy4
      unfold wIx at hy4
      simp only [Option.some.injEq] at hy4
      omega
end
/-! ### rows: data, and where they stand -/
structure SR where
  w : Str
  v : Int
structure MR where
  w : Str
  v : Int
  c : Option Int
  u : Bool
  r : Int
@[reducible] def vO : Option Int → V
  | none => .non
  | some n => .int n
def SRow (K : PySem.W.Frag) (H : Hp) (x : V) (s : SR) : Prop := ∃ a, x = .ref a ∧ SqT K H a [.str s.w, .int s.v]
def MRow (K : PySem.W.Frag) (H : Hp) (x : V) (m : MR) : Prop := ∃ a, x = .ref a ∧ SqT K H a [.str m.w, .int m.v, vO m.c, .bl m.u, .int m.r]
theorem SRows.keep {K : PySem.W.Frag} {m : List Addr} {H H' : Hp} {xs : List V} {ss : List SR} (k : Keep m H H') (h : Al (SRow K H) xs ss) : Al (SRow K H') xs ss :=
  h.imp fun _ _ ⟨a, e, s⟩ => ⟨a, e, k.sqT s⟩
theorem MRows.keep {K : PySem.W.Frag} {m : List Addr} {H H' : Hp} {xs : List V} {ss : List MR} (k : Keep m H H') (h : Al (MRow K H) xs ss) : Al (MRow K H') xs ss :=
  h.imp fun _ _ ⟨a, e, s⟩ => ⟨a, e, k.sqT s⟩
structure RowsAt (K : PySem.W.Frag) (H : Hp) (d a b : Addr) (ss : List SR) (ms : List MR) : Prop where
  dict : H d = some (.dK [(.inr "simple", .ref a), (.inr "multipliers", .ref b)])
  sl : ∃ xs, H a = some (.lst xs) ∧ Al (SRow K H) xs ss
  ml : ∃ ys, H b = some (.lst ys) ∧ Al (MRow K H) ys ms
  ab : a ≠ b
theorem RowsAt.keep {K : PySem.W.Frag} {m : List Addr} {H H' : Hp} {d a b : Addr} {ss : List SR} {ms : List MR} (k : Keep m H H') (h : RowsAt K H d a b ss ms) (h1 : d ∉ m) (h2 : a ∉ m) (h3 : b ∉ m) : RowsAt K H' d a b ss ms := by
  obtain ⟨e, ⟨xs, e1, r1⟩, ⟨ys, e2, r2⟩, n⟩ := h
  exact ⟨k.at e h1, ⟨xs, k.at e1 h2, SRows.keep k r1⟩, ⟨ys, k.at e2 h3, MRows.keep k r2⟩, n⟩
/-- right rows -/
def SOk (s : SR) : Prop := Wok s.w ∧ 1 ≤ s.v ∧ s.v ≤ 100000
def MOk (m : MR) : Prop := Wok m.w ∧ 2 ≤ m.v ∧ m.v ≤ 100000 ∧ (∀ c, m.c = some c → 1 ≤ c ∧ c ≤ 100000 ∧ c * m.v + m.r ≤ 100000) ∧ 0 ≤ m.r ∧ m.r < m.v
structure Wf (ss : List SR) (ms : List MR) : Prop where
  sl : ss.length ≤ 24
  ml : ms.length ≤ 6
  so : ∀ s ∈ ss, SOk s
  mo : ∀ m ∈ ms, MOk m
  nd : (ss.map (·.w) ++ ms.map (·.w)).Nodup
  en : (ms.filter fun m => m.c.isNone).length ≤ 1
def WfS (ss : List SR) (ms : List MR) : Prop := Wf ss ms ∧ (∀ m ∈ ms, m.v ≤ 1000) ∧ (∀ s ∈ ss, s.v ≤ 1000) ∧ ss.length ≤ 16
/-! distinct words -/
theorem wIx_inj {t m n : Int} (ht : 0 ≤ t) (hm : 0 ≤ m) (hm2 : m ≤ 22) (hn : 0 ≤ n) (hn2 : n ≤ 22) (h : wIx t m = wIx t n) : m = n := by
  unfold wIx at h
  have h1 : 0 ≤ t % 22 := Int.emod_nonneg _ (by omega)
  have h2 : t % 22 < 22 := Int.emod_lt_of_pos _ (by omega)
  generalize t % 22 = u at h h1 h2
  have hu : u = 0 ∨ u = 1 ∨ u = 2 ∨ u = 3 ∨ u = 4 ∨ u = 5 ∨ u = 6 ∨ u = 7 ∨ u = 8 ∨ u = 9 ∨ u = 10 ∨ u = 11 ∨ u = 12 ∨ u = 13 ∨ u = 14 ∨ u = 15 ∨ u = 16 ∨ u = 17 ∨ u = 18 ∨ u = 19 ∨ u = 20 ∨ u = 21 := by omega
  rcases hu with rfl | rfl | rfl | rfl | rfl | rfl | rfl | rfl | rfl | rfl | rfl | rfl | rfl | rfl | rfl | rfl | rfl | rfl | rfl | rfl | rfl | rfl <;> omega
theorem wIx_nn (t n : Int) : 0 ≤ wIx t n := Int.emod_nonneg _ (by omega)
theorem Wd.inj {t m n : Int} {x : Str} (ht : 0 ≤ t) (hm : 0 ≤ m) (hm2 : m ≤ 22) (hn : 0 ≤ n) (hn2 : n ≤ 22) (h1 : Wd t m x) (h2 : Wd t n x) : m = n := by
  refine wIx_inj ht hm hm2 hn hn2 ?_
  have e := h1.2.symm.trans h2.2
  have a := wIx_nn t m
  have b := wIx_nn t n
  simp only [Option.some.injEq] at e
  omega
theorem nodup_words {t : Int} (ht : 0 ≤ t) : ∀ {ws : List Str} {ns : List Int}, Al (fun w n => Wd t n w) ws ns → (∀ n ∈ ns, 0 ≤ n ∧ n ≤ 22) → ns.Nodup → ws.Nodup
  | _, _, .nil, _, _ => List.nodup_nil
  | w :: ws, n :: ns, .cons h t', hb, hn => by
    rw [List.nodup_cons] at hn ⊢
    refine ⟨fun hw => hn.1 ?_, nodup_words ht t' (fun m hm => hb m (by simp [hm])) hn.2⟩
    obtain ⟨i, hi⟩ := List.getElem?_of_mem hw
    obtain ⟨m, hm, r⟩ := t'.get hi
    have hm' := List.mem_of_getElem? hm
    have := h.inj ht (hb n (by simp)).1 (hb n (by simp)).2 (hb m (by simp [hm'])).1 (hb m (by simp [hm'])).2 r
    rw [this]
    exact hm'
theorem ix3 {a b c : V} {i : Int} (h0 : 0 ≤ i) (h1 : i < 3) : atI [a, b, c] i = some (if i = 0 then a else if i = 1 then b else c) := by
  have hi : i = 0 ∨ i = 1 ∨ i = 2 := by omega
  rcases hi with rfl | rfl | rfl <;> rfl
theorem ix2 {a b : V} {i : Int} (h0 : 0 ≤ i) (h1 : i < 2) : atI [a, b] i = some (if i = 0 then a else b) := by
  have hi : i = 0 ∨ i = 1 := by omega
  rcases hi with rfl | rfl <;> rfl
theorem ix3i {a b c : Int} {i : Int} (h0 : 0 ≤ i) (h1 : i < 3) : atI [V.int a, V.int b, V.int c] i = some (.int (if i = 0 then a else if i = 1 then b else c)) := by
  have hi : i = 0 ∨ i = 1 ∨ i = 2 := by omega
  rcases hi with rfl | rfl | rfl <;> rfl
theorem Al.mem {α β : Type} {R : α → β → Prop} : ∀ {as : List α} {bs : List β}, Al R as bs → ∀ b ∈ bs, ∃ a ∈ as, R a b
  | _, _, .cons r t, b, hb => by
    rcases List.mem_cons.mp hb with rfl | h
    · exact ⟨_, by simp, r⟩
    · obtain ⟨a, h1, h2⟩ := Al.mem t b h
      exact ⟨a, by simp [h1], h2⟩
theorem rng_snoc (i : Nat) : (List.range (i + 1)).map Int.ofNat = (List.range i).map Int.ofNat ++ [(i : Int)] := by
  rw [List.range_succ, List.map_append]
  rfl
theorem mem_snoc {α : Type} {P : α → Prop} {l : List α} {x : α} (h : ∀ y ∈ l, P y) (hx : P x) : ∀ y ∈ l ++ [x], P y := fun y hy => by
  rcases List.mem_append.mp hy with h' | h'
  · exact h y h'
  · rw [List.mem_singleton.mp h']; exact hx
theorem take_snoc {α : Type} {l : List α} {j : Nat} {x : α} (h : l[j]? = some x) : l.take (j + 1) = l.take j ++ [x] := by
  rw [List.take_add_one, h]; rfl
theorem vO_non (c : Option Int) : decide (vO c = V.non) = c.isNone := by cases c <;> rfl
theorem any_none {ms : List MR} (h : (ms.map fun m => m.c.isNone).any id = false) : (ms.filter fun m => m.c.isNone) = [] := by
  rw [List.filter_eq_nil_iff]
  intro m hm hc
  rw [List.any_map] at h
  have := List.any_eq_false.mp h m hm
  exact this hc
theorem nodup_map {α β : Type} {f : α → β} {l : List α} (h : l.Nodup) (hf : ∀ a b, f a = f b → a = b) : (l.map f).Nodup := by
  unfold List.Nodup
  rw [List.pairwise_map]
  exact h.imp fun hab e => hab (hf _ _ e)
theorem idx_nodup {a b : Nat} (ha : a ≤ 10) : ((List.range a).map Int.ofNat ++ (List.range b).map fun j => 10 + Int.ofNat j).Nodup := by
  rw [List.nodup_append]
  refine ⟨nodup_map List.nodup_range fun _ _ h => Int.ofNat.inj h, nodup_map List.nodup_range fun _ _ h => ?_, fun x hx y hy e => ?_⟩
  · have h : (10 : Int) + Int.ofNat _ = 10 + Int.ofNat _ := h
    simp only [Int.ofNat_eq_natCast] at h
    omega
  · obtain ⟨i, hi, rfl⟩ := List.mem_map.mp hx
    obtain ⟨j, hj, rfl⟩ := List.mem_map.mp hy
    rw [List.mem_range] at hi
    simp only [Int.ofNat_eq_natCast] at e
    omega
theorem idx_bound {a b : Nat} (ha : a ≤ 10) (hb : b ≤ 10) : ∀ n ∈ (List.range a).map Int.ofNat ++ (List.range b).map fun j => 10 + Int.ofNat j, 0 ≤ n ∧ n ≤ 22 := by
  intro n hn
  rcases List.mem_append.mp hn with h | h
  · obtain ⟨i, hi, rfl⟩ := List.mem_map.mp h
    rw [List.mem_range] at hi
    simp only [Int.ofNat_eq_natCast]
    omega
  · obtain ⟨i, hi, rfl⟩ := List.mem_map.mp h
    rw [List.mem_range] at hi
    simp only [Int.ofNat_eq_natCast]
    omega
theorem key_ne {a b : Str} (h : a ≠ b) : ¬ (Sum.inr a : Key) = Sum.inr b := fun e => h (Sum.inr.inj e)
theorem i_rowS {K : PySem.W.Frag} {H : Hp} {Q : VK} {d : Addr} {x y : V} (e : H d = some (.dK [(.inr "simple", x), (.inr "multipliers", y)])) (h : Q x H) : uIx K (.ref d) (.str "simple") H Q :=
  i_ixK (k := .inr "simple") e rfl (valV_pos rfl) h
theorem i_rowM {K : PySem.W.Frag} {H : Hp} {Q : VK} {d : Addr} {x y : V} (e : H d = some (.dK [(.inr "simple", x), (.inr "multipliers", y)])) (h : Q y H) : uIx K (.ref d) (.str "multipliers") H Q :=
  i_ixK (k := .inr "multipliers") e rfl ((valV_neg (key_ne (a := "simple") (b := "multipliers") (by decide +kernel))).trans (valV_pos rfl)) h
/-! ### what the law asks -/
def LV : Nat := 200
def spLaw (K : PySem.W.Frag) : Sp := fun vs H Q _ => ∃ (a : Addr) (ns : List Int), vs = [.ref a] ∧ SqL K H a (ns.map V.int) ∧ ns.length ≤ 63 ∧ ∀ H', Q (.bl true) H'
theorem flat_vO (x : Option Int) : flatD (vO x) := by
  cases x with
  | none => exact .inl rfl
  | some n => exact .inr (.inr (.inl ⟨n, rfl⟩))
theorem same_vO {K : PySem.W.Frag} {d : Nat} {x y : Option Int} {H : Hp} {Q : VK} {E : XK} (e : x = y) (h : ∀ H', Keep [] H H' → Q (.bl true) H') : spSame (DV K d) ([vO x, vO y] ++ []) H Q E := by
  subst e
  refine ⟨vO x, vO x, rfl, ?_, h⟩
  cases d with
  | zero => exact .inl ⟨rfl, flat_vO x⟩
  | succ d => exact .inl ⟨rfl, flat_vO x⟩
theorem i_headE {K : PySem.W.Frag} {σ : L2.St} {H : Hp} {Q' : VK} {D : Addr} {i : Nat} {l : List Int} (e : SqL K H D (l.map V.int)) (hs : σ[i]? = some (some (.ref D))) (q : Q' (vO l.head?) H) :
    ∃ k, TruV K (.ref D) H k ∧ (if k = true then tOp (uIx K) (tVar i) (tC (.int 0)) σ H Q' else tC .non σ H Q') := by
  refine i_truL e ?_
  cases l with
  | nil => exact i_F q
  | cons z zs => exact i_T (i_op (i_var hs (i_c (i_ixL e (v := .int z) (atI_of (Int.le_refl 0) rfl) q))))
/-! ### how many ways there are to say a number -/
def okC : Option Int → Int → Bool
  | none, _ => true
  | some c, g => decide (g ≤ c)
def cntS (ss : List SR) (n : Int) : Int := ((ss.filter fun s => decide (s.v = n)).length : Nat)
/-- may n be said with m outermost, but for its count and rest -/
def fitM (m : MR) (n : Int) : Bool := decide (0 < n / m.v) && (decide (n - n / m.v * m.v ≤ m.r) && okC m.c (n / m.v))
def headW (W : Int → Int) (m : MR) (g : Int) : Int := if m.u && decide (g = 1) then 1 else W g
def tailW (W : Int → Int) (r : Int) : Int := if r = 0 then 1 else W r
def term (W : Int → Int) (n : Int) (m : MR) : Int :=
  if fitM m n then headW W m (n / m.v) * tailW W (n - n / m.v * m.v) else 0
def wF (ss : List SR) (ms : List MR) : Nat → Int → Int
  | 0, _ => 0
  | f + 1, n => cntS ss n + (ms.map (term (wF ss ms f) n)).sum
def ways (ss : List SR) (ms : List MR) (n : Int) : Int := wF ss ms (n.toNat + 1) n
theorem fitM_pos {m : MR} {n : Int} (h : fitM m n = true) : 0 < n / m.v ∧ n - n / m.v * m.v ≤ m.r ∧ okC m.c (n / m.v) = true := by
  unfold fitM at h
  simp only [Bool.and_eq_true, decide_eq_true_eq] at h
  exact h
/-- count and rest are smaller -/
theorem parts_lt {v n : Int} (hv : 2 ≤ v) (hg : 0 < n / v) : n / v < n ∧ 0 ≤ n - n / v * v ∧ n - n / v * v < v ∧ v ≤ n ∧ n / v + (n - n / v * v) < n := by
  have h1 := Int.mul_ediv_add_emod n v
  have h2 := Int.emod_nonneg n (b := v) (by omega)
  have h3 := Int.emod_lt_of_pos n (b := v) (by omega)
  generalize n / v = g at *
  generalize n % v = r at *
  have e : g * v = v * g := Int.mul_comm g v
  have h4 : v * 1 ≤ v * g := Int.mul_le_mul_of_nonneg_left (by omega) (by omega)
  have h5 : 2 * g ≤ v * g := Int.mul_le_mul_of_nonneg_right hv (by omega)
  rw [e]
  omega
theorem term_congr {W W' : Int → Int} {n : Int} {m : MR} (hv : 2 ≤ m.v) (h : ∀ k, 0 ≤ k → k < n → W k = W' k) : term W n m = term W' n m := by
  unfold term
  by_cases hf : fitM m n = true
  · rw [if_pos hf, if_pos hf]
    obtain ⟨h1, h2, h3⟩ := fitM_pos hf
    obtain ⟨g1, g2, g3, g4, g5⟩ := parts_lt hv h1
    unfold headW tailW
    rw [h (n / m.v) (by omega) g1, h (n - n / m.v * m.v) g2 (by omega)]
  · rw [if_neg hf, if_neg hf]
theorem map_sum_congr {α : Type} {f g : α → Int} : ∀ {l : List α}, (∀ a ∈ l, f a = g a) → (l.map f).sum = (l.map g).sum
  | [], _ => rfl
  | a :: l, h => by
    rw [List.map_cons, List.map_cons, List.sum_cons, List.sum_cons, h a (by simp), map_sum_congr fun b hb => h b (by simp [hb])]
theorem wF_st {ss : List SR} {ms : List MR} (hm : ∀ m ∈ ms, 2 ≤ m.v) : ∀ (f g : Nat) (n : Int), n.toNat < f → n.toNat < g → wF ss ms f n = wF ss ms g n
  | 0, _, _, h, _ => absurd h (by omega)
  | _, 0, _, _, h => absurd h (by omega)
  | f + 1, g + 1, n, h1, h2 => by
    unfold wF
    rw [map_sum_congr fun m hm' => term_congr (hm m hm') fun k hk0 hk => wF_st hm f g k (by omega) (by omega)]
theorem ways_eq {ss : List SR} {ms : List MR} (hm : ∀ m ∈ ms, 2 ≤ m.v) (n : Int) : ways ss ms n = cntS ss n + (ms.map (term (ways ss ms) n)).sum := by
  show cntS ss n + (ms.map (term (wF ss ms n.toNat) n)).sum = _
  rw [map_sum_congr fun m hm' => term_congr (hm m hm') fun k hk0 hk => wF_st hm n.toNat (k.toNat + 1) k (by omega) (by omega)]
  rfl
theorem sum_nn' {α : Type} {f : α → Int} : ∀ {l : List α}, (∀ a ∈ l, 0 ≤ f a) → 0 ≤ (l.map f).sum
  | [], _ => by simp
  | a :: l, h => by
    have h1 := h a (by simp)
    have h2 := sum_nn' (l := l) (f := f) fun b hb => h b (by simp [hb])
    rw [List.map_cons, List.sum_cons]
    omega
theorem headW_nn {W : Int → Int} (h : ∀ k, 0 ≤ W k) (m : MR) (g : Int) : 0 ≤ headW W m g := by
  unfold headW
  split
  · omega
  · exact h _
theorem tailW_nn {W : Int → Int} (h : ∀ k, 0 ≤ W k) (r : Int) : 0 ≤ tailW W r := by
  unfold tailW
  split
  · omega
  · exact h _
theorem term_nn {W : Int → Int} (h : ∀ k, 0 ≤ W k) (n : Int) (m : MR) : 0 ≤ term W n m := by
  unfold term
  split
  · exact Int.mul_nonneg (headW_nn h _ _) (tailW_nn h _)
  · omega
theorem wF_nn {ss : List SR} {ms : List MR} : ∀ (f : Nat) (n : Int), 0 ≤ wF ss ms f n
  | 0, _ => Int.le_refl 0
  | f + 1, n => by
    have h := sum_nn' (l := ms) (f := term (wF ss ms f) n) fun m _ => term_nn (wF_nn f) n m
    have h2 : 0 ≤ cntS ss n := by unfold cntS; omega
    unfold wF
    omega
theorem ways_nn (ss : List SR) (ms : List MR) (n : Int) : 0 ≤ ways ss ms n := wF_nn _ _
theorem ways_le0 {ss : List SR} {ms : List MR} (hs : ∀ s ∈ ss, 1 ≤ s.v) (hm : ∀ m ∈ ms, 2 ≤ m.v) {n : Int} (h : n ≤ 0) : ways ss ms n = 0 := by
  rw [ways_eq hm]
  have h1 : cntS ss n = 0 := by
    unfold cntS
    have : (ss.filter fun s => decide (s.v = n)) = [] := List.filter_eq_nil_iff.mpr fun s hs' => by
      have := hs s hs'
      simp only [decide_eq_true_eq]
      omega
    rw [this]
    rfl
  have h2 : ∀ m ∈ ms, term (ways ss ms) n m = (fun _ => (0 : Int)) m := fun m hm' => by
    unfold term
    rw [if_neg]
    intro hf
    obtain ⟨g1, _, _⟩ := fitM_pos hf
    obtain ⟨a, b, c, d, e⟩ := parts_lt (hm m hm') g1
    have := hm m hm'
    omega
  rw [map_sum_congr h2, h1]
  clear h2
  induction ms with
  | nil => rfl
  | cons m ms ih =>
    rw [List.map_cons, List.sum_cons]
    have := ih (fun m hm' => hm m (by simp [hm']))
    omega
/-! sizes -/
theorem sum_le' {α : Type} {f : α → Int} {b : Int} : ∀ {l : List α}, (∀ a ∈ l, f a ≤ b) → (l.map f).sum ≤ l.length * b
  | [], _ => by simp
  | a :: l, h => by
    have h1 := h a (by simp)
    have h2 := sum_le' (l := l) (f := f) (b := b) fun b hb => h b (by simp [hb])
    rw [List.map_cons, List.sum_cons, List.length_cons]
    have : ((l.length + 1 : Nat) : Int) * b = l.length * b + b := by rw [Int.natCast_add, Int.add_mul]; simp
    omega
theorem pow_pos' (k : Nat) : (1 : Int) ≤ 32 ^ k := by
  induction k with
  | zero => decide
  | succ k ih => rw [Int.pow_succ]; omega
theorem pow_mono' {a b : Nat} (h : a ≤ b) : (32 : Int) ^ a ≤ 32 ^ b := by
  induction h with
  | refl => exact Int.le_refl _
  | step _ ih => rw [Int.pow_succ]; have := pow_pos' a; omega
theorem wF_lt {ss : List SR} {ms : List MR} (hs : ss.length ≤ 24) (hl : ms.length ≤ 6) (hs1 : ∀ s ∈ ss, 1 ≤ s.v) (hm : ∀ m ∈ ms, 2 ≤ m.v) : ∀ (f : Nat) (n : Int), wF ss ms f n < 32 ^ n.toNat
  | 0, n => by have := pow_pos' n.toNat; show (0 : Int) < _; omega
  | f + 1, n => by
    have hc : cntS ss n ≤ 24 := by
      unfold cntS
      have := List.length_filter_le (fun s : SR => decide (s.v = n)) ss
      omega
    by_cases hn : 1 ≤ n
    · have ht : ∀ m ∈ ms, term (wF ss ms f) n m ≤ 32 ^ (n.toNat - 1) := by
        intro m hm'
        unfold term
        by_cases hf : fitM m n = true
        · rw [if_pos hf]
          obtain ⟨h1, h2, h3⟩ := fitM_pos hf
          obtain ⟨g1, g2, g3, g4, g5⟩ := parts_lt (hm m hm') h1
          generalize n / m.v = g at *
          generalize n - g * m.v = r at *
          have a1 : headW (wF ss ms f) m g ≤ 32 ^ g.toNat := by
            unfold headW
            split
            · exact pow_pos' _
            · exact Int.le_of_lt (wF_lt hs hl hs1 hm f g)
          have a2 : tailW (wF ss ms f) r ≤ 32 ^ r.toNat := by
            unfold tailW
            split
            · exact pow_pos' _
            · exact Int.le_of_lt (wF_lt hs hl hs1 hm f r)
          have b1 : headW (wF ss ms f) m g * tailW (wF ss ms f) r ≤ 32 ^ g.toNat * 32 ^ r.toNat :=
            Int.mul_le_mul a1 a2 (tailW_nn (wF_nn f) _) (by have := pow_pos' g.toNat; omega)
          rw [← Int.pow_add] at b1
          exact Int.le_trans b1 (pow_mono' (by omega))
        · rw [if_neg hf]
          have := pow_pos' (n.toNat - 1)
          omega
      have hsum := sum_le' ht
      have e : (32 : Int) ^ n.toNat = 32 ^ (n.toNat - 1) * 32 := by rw [← Int.pow_succ]; congr 1; omega
      have hp := pow_pos' (n.toNat - 1)
      have h6 : (ms.length : Int) * 32 ^ (n.toNat - 1) ≤ 6 * 32 ^ (n.toNat - 1) := Int.mul_le_mul_of_nonneg_right (by omega) (by omega)
      show cntS ss n + (ms.map (term (wF ss ms f) n)).sum < _
      rw [e]
      omega
    · have e0 : wF ss ms (f + 1) n = 0 := by
        have h0 := ways_le0 hs1 hm (n := n) (by omega)
        have h1 := wF_st (ss := ss) hm (f + 1) (n.toNat + 1) n (by omega) (by omega)
        rw [h1]
        exact h0
      rw [e0]
      have := pow_pos' n.toNat
      omega
theorem ways_lt {ss : List SR} {ms : List MR} (hs : ss.length ≤ 24) (hl : ms.length ≤ 6) (hs1 : ∀ s ∈ ss, 1 ≤ s.v) (hm : ∀ m ∈ ms, 2 ≤ m.v) (n : Int) : ways ss ms n < 32 ^ n.toNat := wF_lt hs hl hs1 hm _ n
theorem Wf.v2 {ss : List SR} {ms : List MR} (h : Wf ss ms) : ∀ m ∈ ms, 2 ≤ m.v := fun m hm => (h.mo m hm).2.1
theorem Wf.s1 {ss : List SR} {ms : List MR} (h : Wf ss ms) : ∀ s ∈ ss, 1 ≤ s.v := fun s hs => (h.so s hs).2.1
theorem bits_of {a : Int} {k : Nat} (h0 : 0 ≤ a) (h : a < 32 ^ k) : a.natAbs < 2 ^ (5 * k) := by
  have e : (32 : Int) ^ k = ((2 ^ (5 * k) : Nat) : Int) := by
    rw [Nat.pow_mul]
    simp
  omega
/-! capped at two -/
def cap (n : Int) : Int := min 2 n
theorem cap_add {a b a' b' : Int} (h1 : cap a = cap a') (h2 : cap b = cap b') (ha : 0 ≤ a) (hb : 0 ≤ b) (ha' : 0 ≤ a') (hb' : 0 ≤ b') : cap (a + b) = cap (a' + b') := by
  unfold cap at *; omega
theorem cap_mul {a b a' b' : Int} (h1 : cap a = cap a') (h2 : cap b = cap b') (ha : 0 ≤ a) (hb : 0 ≤ b) (ha' : 0 ≤ a') (hb' : 0 ≤ b') : cap (a * b) = cap (a' * b') := by
  unfold cap at *
  by_cases a0 : a = 0
  · have : a' = 0 := by omega
    subst a0 this
    simp
  · by_cases b0 : b = 0
    · have : b' = 0 := by omega
      subst b0 this
      simp
    · by_cases a1 : a = 1
      · have : a' = 1 := by omega
        subst a1 this
        simpa using h2
      · by_cases b1 : b = 1
        · have : b' = 1 := by omega
          subst b1 this
          simpa using h1
        · have e1 : 2 * 2 ≤ a * b := Int.mul_le_mul (by omega) (by omega) (by omega) (by omega)
          have e2 : 2 * 2 ≤ a' * b' := Int.mul_le_mul (by omega) (by omega) (by omega) (by omega)
          omega
theorem cap_cap (n : Int) : cap (cap n) = cap n := by unfold cap; omega
theorem cap_sum {α : Type} {f g : α → Int} : ∀ {l : List α}, (∀ a ∈ l, cap (f a) = cap (g a) ∧ 0 ≤ f a ∧ 0 ≤ g a) → cap (l.map f).sum = cap (l.map g).sum
  | [], _ => rfl
  | a :: l, h => by
    rw [List.map_cons, List.map_cons, List.sum_cons, List.sum_cons]
    obtain ⟨h1, h2, h3⟩ := h a (by simp)
    exact cap_add h1 (cap_sum fun b hb => h b (by simp [hb])) h2 (sum_nn' fun b hb => (h b (by simp [hb])).2.1) h3 (sum_nn' fun b hb => (h b (by simp [hb])).2.2)
theorem cap_term {ss : List SR} {ms : List MR} (n : Int) (m : MR) : cap (term (fun k => cap (ways ss ms k)) n m) = cap (term (ways ss ms) n m) := by
  have hn : ∀ k, 0 ≤ cap (ways ss ms k) := fun k => by have := ways_nn ss ms k; unfold cap; omega
  unfold term
  split
  · refine cap_mul ?_ ?_ (headW_nn hn _ _) (tailW_nn hn _) (headW_nn (ways_nn ss ms) _ _) (tailW_nn (ways_nn ss ms) _)
    · unfold headW
      split
      · rfl
      · exact cap_cap _
    · unfold tailW
      split
      · rfl
      · exact cap_cap _
  · rfl
/-- what the table holds, made from what it holds below -/
theorem table_eq {ss : List SR} {ms : List MR} (hm : ∀ m ∈ ms, 2 ≤ m.v) (n : Int) : min 2 (cntS ss n + (ms.map (term (fun k => cap (ways ss ms k)) n)).sum) = cap (ways ss ms n) := by
  have hn : ∀ k, 0 ≤ cap (ways ss ms k) := fun k => by have := ways_nn ss ms k; unfold cap; omega
  rw [ways_eq hm n]
  exact cap_add rfl (cap_sum fun m _ => ⟨cap_term n m, term_nn hn _ _, term_nn (ways_nn ss ms) _ _⟩) (by unfold cntS; omega) (sum_nn' fun m _ => term_nn hn _ _) (by unfold cntS; omega) (sum_nn' fun m _ => term_nn (ways_nn ss ms) _ _)
local macro_rules | `(tactic| walk_at "tr1") => `(tactic| first
  | (refine' PoolAt.keep (by assumption) ?h ?n1 ?n2; (case h => walk_at "tr"); (case n1 => walk_at "ne"); (case n2 => walk_at "ne"))
  | (refine' SRows.keep (by assumption) ?h; (case h => walk_at "tr"))
  | (refine' MRows.keep (by assumption) ?h; (case h => walk_at "tr")))
local macro_rules | `(tactic| walk_at "go3") => `(tactic| first
  | ((with_reducible refine' spTake.use ?P ?h0 ?h1 ?_); (case P => walk_at "tr"); (case h0 => omega); (case h1 => omega); intro _ _ _ _ _ _)
  | ((with_reducible refine' spWord.use ?P ?_); (case P => walk_at "tr"); intro _ _ _ _ _)
  | ((with_reducible refine' i_newT (sz (by simp)) ?_); intro _ _ _ _ _)
  | ((with_reducible refine' i_ixT ?e1 ?e2 ?_); (case e1 => walk_at "tr"); (case e2 => (first | exact ix3i (by omega) (by omega) | exact ix3 (by omega) (by omega) | exact ix2 (by omega) (by omega))))
  | ((with_reducible refine' i_rowS ?e ?_); (case e => walk_at "tr"))
  | ((with_reducible refine' i_rowM ?e ?_); (case e => walk_at "tr")))
theorem PoolAt.nn {t : Int} {H : Hp} {p c : Addr} (h : PoolAt t H p c) : 0 ≤ t := by
  obtain ⟨_, ⟨ns, _, h1, _, h2⟩, _⟩ := h
  rw [← h2]
  exact sum_nn fun n hn => h1 n (List.mem_of_mem_take hn)
/-- rows that are drawn -/
def spRows (K : PySem.W.Frag) (C : List SR → List MR → Prop) : Sp := fun vs H Q _ => ∃ (t : Int) (p c : Addr), vs = [.ref p] ∧ PoolAt t H p c ∧
  ∀ (ss : List SR) (ms : List MR) (d a b : Addr) (H' : Hp), RowsAt K H' d a b ss ms → C ss ms → H d = none → H a = none → H b = none → Keep [p] H H' → PoolAt t H' p c → Q (.ref d) H'
theorem SRow.new {K : PySem.W.Frag} {H : Hp} {a : Addr} (s : SR) (e : H a = some (.tup [.str s.w, .int s.v])) : SRow K H (.ref a) s := ⟨a, rfl, SqT.of e⟩
theorem MRow.new {K : PySem.W.Frag} {H : Hp} {a : Addr} (s : MR) (e : H a = some (.tup [.str s.w, .int s.v, vO s.c, .bl s.u, .int s.r])) : MRow K H (.ref a) s := ⟨a, rfl, SqT.of e⟩
section
variable {P : Program} {w : World} {K : PySem.W.Frag} {mg : Str → Option Value} {base : Heap}
theorem c_l_drawn (T : Txt K mg) : Cal P w K mg base CX0 "_law_drawn" 5 ["_law_pool_here"] (spRows K WfS) := by
  refine T.d_l_drawn.ok sc_l_drawn (fun vs H Q E h => ?_) (fun f cdv A outer s H vs Q E hr h => ?_)
  · obtain ⟨t, p, c, rfl, _⟩ := h
    rfl
  · obtain ⟨t, p, c, rfl, hP, k⟩ := h
    refine ⟨_, (pss_cons (ps_set (i := 1) sc_l_drawn.nd rfl (Or.inl rfl) (pe_lst pa_nil))
      (pss_cons (ps_for PassesOwn.never rfl (pi_range1 rfl T.b_range (pa_cons (pe_cal (c_l_take T) hr (by omega) rfl pass0 (pa_cons (pv 0) (pa_cons pe_int pa_nil))) pa_nil)) (pg_name (i := 2) sc_l_drawn.nd rfl (Or.inl rfl)) (pss_one (ps_expr (k_bm K rfl PySem.F.plainAttrs_list PySem.F.slot_list_append PySem.F.type_list_append mt_append (pv 1) (pa_cons (pe_tup (pa_cons (pe_cal (c_l_word T) hr (by omega) rfl pass0 (pa_cons (pv 0) (pa_cons (pv 2) pa_nil))) (pa_cons (pe_op (k_add K rfl) pe_int (pe_cal (c_l_take T) hr (by omega) rfl pass0 (pa_cons (pv 0) (pa_cons (pe_ix (k_ix K rfl hr) (pe_tup (pa_cons pe_int (pa_cons pe_int (pa_cons pe_int pa_nil)))) (pe_cal (c_l_take T) hr (by omega) rfl pass0 (pa_cons (pv 0) (pa_cons pe_int pa_nil))) (fun _ _ => rfl)) pa_nil)))) pa_nil))) pa_nil)))))
      (pss_cons (ps_set (i := 3) sc_l_drawn.nd rfl (Or.inl rfl) (pe_lst pa_nil))
      (pss_cons (ps_for PassesOwn.never rfl (pi_range1 rfl T.b_range (pa_cons (pe_cal (c_l_take T) hr (by omega) rfl pass0 (pa_cons (pv 0) (pa_cons pe_int pa_nil))) pa_nil)) (pg_name (i := 2) sc_l_drawn.nd rfl (Or.inl rfl)) (pss_cons (ps_set (i := 4) sc_l_drawn.nd rfl (Or.inl rfl) (pe_op (k_add K rfl) pe_int (pe_cal (c_l_take T) hr (by omega) rfl pass0 (pa_cons (pv 0) (pa_cons (pe_ix (k_ix K rfl hr) (pe_tup (pa_cons pe_int (pa_cons pe_int (pa_cons pe_int pa_nil)))) (pe_cal (c_l_take T) hr (by omega) rfl pass0 (pa_cons (pv 0) (pa_cons pe_int pa_nil))) (fun _ _ => rfl)) pa_nil)))))
      (pss_cons (ps_set (i := 5) sc_l_drawn.nd rfl (Or.inl rfl) (pe_op (k_add K rfl) pe_int (pe_cal (c_l_take T) hr (by omega) rfl pass0 (pa_cons (pv 0) (pa_cons (pe_ix (k_ix K rfl hr) (pe_tup (pa_cons pe_int (pa_cons pe_int (pa_cons pe_int pa_nil)))) (pe_cal (c_l_take T) hr (by omega) rfl pass0 (pa_cons (pv 0) (pa_cons pe_int pa_nil))) (fun _ _ => rfl)) pa_nil)))))
      (pss_cut (ps_if (PW.pt (pw_and (pt_cmpR (k_eq K rfl hr) (pe_cal (c_l_take T) hr (by omega) rfl pass0 (pa_cons (pv 0) (pa_cons pe_int pa_nil))) pe_int (nomark _)) (pw_and1 (pt_not (k_tr K rfl (pe_callB (k_any K rfl rfl) rfl T.b_any (by decide +kernel) (pa_cons (pe_lc (own := [("_law_row", 6)]) (g := (gName 6)) (tt := tYes) rfl sc_l_drawn.nd (k_sq K rfl (pv 3)) (blkOk_by (N := ["_law_pool_here", "_law_simple", "_law_k", "_law_multipliers", "_law_value", "_law_count_here", "_law_row", "_law_rest"]) (sc := defScope s_l_drawn) (by decide +kernel)) (fun _ _ _ _ _ => (pg_name (i := 6) sc_l_drawn.nd rfl (Or.inl rfl))) (fun _ _ _ _ _ => pts_nil) (fun _ _ _ _ _ => (pe_cmpR o_isN (pe_ix (k_ix K rfl hr) (pv 6) pe_int (fun _ _ => rfl)) pe_non (nomark _)))) pa_nil))))))) (pss_one (ps_set (i := 5) sc_l_drawn.nd rfl (Or.inl rfl) pe_non)) pss_nil)
      (pss_cons (ps_set (i := 7) sc_l_drawn.nd rfl (Or.inl rfl) (pe_ix (k_ix K rfl hr) (pe_tup (pa_cons pe_int (pa_cons (pe_op (o_sub) (pv 4) pe_int) (pa_cons (pe_cal (c_l_take T) hr (by omega) rfl pass0 (pa_cons (pv 0) (pa_cons (pv 4) pa_nil))) pa_nil)))) (pe_cal (c_l_take T) hr (by omega) rfl pass0 (pa_cons (pv 0) (pa_cons pe_int pa_nil))) (fun _ _ => rfl)))
      (pss_one (ps_expr (k_bm K rfl PySem.F.plainAttrs_list PySem.F.slot_list_append PySem.F.type_list_append mt_append (pv 3) (pa_cons (pe_tup (pa_cons (pe_cal (c_l_word T) hr (by omega) rfl pass0 (pa_cons (pv 0) (pa_cons (pe_op (k_add K rfl) pe_int (pv 2)) pa_nil))) (pa_cons (pv 4) (pa_cons (pv 5) (pa_cons (pe_cmpR (k_eq K rfl hr) (pe_cal (c_l_take T) hr (by omega) rfl pass0 (pa_cons (pv 0) (pa_cons pe_int pa_nil))) pe_int (nomark _)) (pa_cons (pv 7) pa_nil)))))) pa_nil)))))))))
      (pss_one (ps_ret (pe_disp (pps_cons pe_str (pv 1) (pps_cons pe_str (pv 3) pps_nil)) (by rfl) (by rfl) (fun z => by cases z) (by decide)))))))), ?_⟩
    refine i_st (σ' := [some _, none, none, none, none, none, none, none]) rfl ?_
    have ht := hP.nn
    walk_at "go"
    refine i_new (sz (by simp)) fun a H1 ha k1 e1 => ?_
    have na := hP.off ha
    have na1 := na.1
    have na2 := na.2
    walk_at "go"
    rename_i n5 H2 h5 h5' k2 P2
    refine i_forW (walk_rng0 (n := n5.toNat)) (fun i σ H' => ∃ o xs ss, σ = [some (.ref p), some (.ref a), o, none, none, none, none, none] ∧ H' a = some (.lst xs) ∧ Al (SRow K H') xs ss ∧ ss.length = i ∧
      Al (fun x n => Wd t n x) (ss.map (·.w)) ((List.range i).map Int.ofNat) ∧ (∀ s ∈ ss, SOk s ∧ s.v ≤ 1000) ∧ Keep [p] H H' ∧ PoolAt t H' p c) ?_ ?_ ?_ ?_
    · exact ⟨none, [], [], rfl, by walk_at "tr", .nil, rfl, .nil, by simp, (k1.wid0.trans k2), P2⟩
    · exact fun _ _ _ _ _ => trivial
    · rintro i x σ H3 H4 hi ⟨o, xs, ss, rfl, e3, r3, l3, w3, o3, k3, P3⟩ ⟨rfl, rfl⟩
      walk_at "go"
      rename_i y _ hw _ _ _ _ _ _ _ g _ _ _ _ _ z H5 _ _ _ _ T6 H6 _ _ e6
      have l4 := r3.len
      refine i_app (xs := xs) (by walk_at "tr") (sz' (by omega)) fun H7 k7 e7 => ?_
      refine ⟨_, _, ss ++ [⟨y, 1 + z⟩], rfl, e7, (by walk_at "tr" : Al (SRow K H7) xs ss).snoc (SRow.new _ (by walk_at "tr")), by simp; omega, ?_, ?_, ?_⟩
      · rw [List.map_append, rng_snoc]
        exact w3.snoc hw
      · exact mem_snoc o3 ⟨⟨hw.1, by show 1 ≤ 1 + z; omega, by show 1 + z ≤ 100000; omega⟩, by show 1 + z ≤ 1000; omega⟩
      · exact ⟨(by walk_at "kp" : Keep [a, p] H H7).cut ha, by walk_at "tr"⟩
    · rintro σ H3 ⟨o, xs, ss, rfl, e3, r3, l3, w3, o3, k3, P3⟩
      walk_at "go"
      refine i_new (sz (by simp)) fun b H4 hb k4 e4 => ?_
      have nb1 := (P3.off hb).1
      have nb2 := (P3.off hb).2
      have nab := ne_of_none e3 hb
      walk_at "go"
      rename_i n6 H5 h6 h6' k5 P5
      refine i_forW (walk_rng0 (n := n6.toNat)) (fun i σ H' => ∃ o o4 o5 o7 ys ms, σ = [some (.ref p), some (.ref a), o, some (.ref b), o4, o5, none, o7] ∧ H' b = some (.lst ys) ∧ Al (MRow K H') ys ms ∧ ms.length = i ∧
        Al (fun x n => Wd t n x) (ms.map (·.w)) ((List.range i).map fun j => 10 + Int.ofNat j) ∧ (∀ m ∈ ms, MOk m ∧ m.v ≤ 1000) ∧ (ms.filter fun m => m.c.isNone).length ≤ 1 ∧ H' a = some (.lst xs) ∧ Al (SRow K H') xs ss ∧ Keep [p] H H' ∧ PoolAt t H' p c) ?_ ?_ ?_ ?_
      · exact ⟨o, none, none, none, [], [], rfl, by walk_at "tr", .nil, rfl, .nil, by simp, by simp, by walk_at "tr", by walk_at "tr", (by walk_at "kp"), P5⟩
      · exact fun _ _ _ _ _ => trivial
      · rintro i x σ H6 H7 hi ⟨o, o4, o5, o7, ys, ms, rfl, e7, r7, l7, w7, m7, en7, f7, g7, k7, P7⟩ ⟨rfl, rfl⟩
        walk_at "go"
        rename_i _ _ _ _ _ g1 _ _ _ _ _ q1 _ q1a q1b _ _ _ _ _ _ _ g2 _ _ _ _ _ q2 H8 q2a q2b _ _
        refine i_cut (fun σ' H' => ∃ cc : Option Int, σ' = [some (.ref p), some (.ref a), some (.int i), some (.ref b), some (.int (2 + q1)), some (vO cc), none, o7] ∧ (cc = some (1 + q2) ∨ (cc = none ∧ (ms.filter fun m => m.c.isNone) = [])) ∧ Keep [p] H7 H' ∧ PoolAt t H' p c) ?_ ?_
        · walk_at "go"
          refine i_ite (fun hz => ?_) fun hz => ?_
          · walk_at "go"
            rename_i H9 _ _ _ _
            have e9 : H9 b = some (.lst ys) := by walk_at "tr"
            have r9 : Al (MRow K H9) ys ms := by walk_at "tr"
            refine i_lcW (walk_list (xs := ys)) (fun D j acc H' => Keep [] H9 H' ∧ acc = (ms.take j).map fun m => .bl m.c.isNone) (by walk_at "st") ?_ ?_ ?_ ?_
            · exact fun D H' _ kp _ => ⟨kp, by simp⟩
            · exact fun D j acc H' _ _ _ f => SqL.of (f.1.at e9 (by simp))
            · rintro D j x acc H10 H11 hj hD eD lD ⟨kD, rfl⟩ ⟨rfl, hx⟩
              obtain ⟨m, hm, ⟨r, rfl, hr'⟩⟩ := r9.get hx
              have hr2 := kD.sqT hr'
              walk_at "go"
              refine ⟨rfl, ?_⟩
              walk_at "go"
              refine i_isN ?_
              rw [vO_non]
              have hj2 := (List.getElem?_eq_some_iff.mp hm).1
              exact i_lcY eD lD (by omega) fun H12 k12 e12 => ⟨(kD.wid0.trans k12).cut hD, by rw [take_snoc hm, List.map_append]; rfl⟩
            · rintro D acc H10 hD eD lD ⟨kD, rfl⟩
              walk_at "go"
              refine ⟨D, ms.map fun m => m.c.isNone, rfl, SqL.of (by rw [eD, r9.len, List.take_length, List.map_map]; rfl), ?_⟩
              walk_at "go"
              refine i_iteB (fun hb => ?_) fun hb => ?_
              · walk_at "go"
                exact ⟨none, rfl, .inr ⟨rfl, any_none (by simpa using hb)⟩, by walk_at "kp", by walk_at "tr"⟩
              · walk_at "go"
                exact ⟨some _, rfl, .inl rfl, by walk_at "kp", by walk_at "tr"⟩
          · walk_at "go"
            exact ⟨some _, rfl, .inl rfl, by walk_at "kp", by assumption⟩
        · rintro σ' H8 ⟨cc, rfl, hcc, k8, P8⟩
          walk_at "go"
          have l9 := r7.len
          refine i_app (xs := ys) (by walk_at "tr") (sz' (by omega)) fun H9 k9 e9 => ?_
          rename_i r2 _ r2a r2b _ _ _ _ _ _ _ g3 _ g3a g3b _ _ x _ hw _ _ u _ _ _ _ _ T10 H10 _ _ e10
          have hbH := k3.dom _ hb
          have hr : 0 ≤ (if g3 = 0 then 0 else if g3 = 1 then 2 + q1 - 1 else r2) ∧ (if g3 = 0 then 0 else if g3 = 1 then 2 + q1 - 1 else r2) < 2 + q1 := by constructor <;> omega
          have hq1 : q1 < 30 := by omega
          have hq2 : q2 < 40 := by omega
          clear q1b q2b r2b
          refine ⟨_, _, _, _, _, ms ++ [⟨x, 2 + q1, cc, decide (u = 1), if g3 = 0 then 0 else if g3 = 1 then 2 + q1 - 1 else r2⟩], rfl, e9, (by walk_at "tr" : Al (MRow K H9) ys ms).snoc (MRow.new _ (by walk_at "tr")), by simp; omega, ?_, ?_, ?_, by walk_at "tr", by walk_at "tr",
            (by walk_at "kp" : Keep [b, p] H H9).cut hbH, by walk_at "tr"⟩
          · rw [List.map_append, List.range_succ, List.map_append]
            exact w7.snoc hw
          · refine mem_snoc m7 ⟨⟨hw.1, by show 2 ≤ 2 + q1; omega, by show 2 + q1 ≤ 100000; omega, fun c hc => ?_, hr.1, hr.2⟩, by show 2 + q1 ≤ 1000; omega⟩
            have hc : cc = some c := hc
            rcases hcc with hcc | ⟨hcc, _⟩
            · rw [hc] at hcc
              injection hcc with hcc
              refine ⟨by omega, by omega, ?_⟩
              show c * (2 + q1) + _ ≤ 100000
              have h1 : c * (2 + q1) ≤ 40 * (2 + q1) := Int.mul_le_mul_of_nonneg_right (by omega) (by omega)
              have h2 := hr.2
              dsimp only
              omega
            · rw [hc] at hcc; cases hcc
          · rw [List.filter_append, List.length_append]
            rcases hcc with hcc | ⟨hcc, hn⟩
            · simp only [hcc, List.filter_cons, Option.isNone_some, Bool.false_eq_true, if_false, List.filter_nil, List.length_nil]
              omega
            · rw [hn]
              exact Nat.le_trans (Nat.add_le_add_left (List.length_filter_le _ _) _) (by simp)
      · rintro σ H6 ⟨o, o4, o5, o7, ys, ms, rfl, e7, r7, l7, w7, m7, en7, f7, g7, k7, P7⟩
        refine i_disp fun d H7 hd k7' e7' => ?_
        walk_at "go"
        refine i_dispK [(.inr "simple", .ref a), (.inr "multipliers", .ref b)] e7' rfl (by simp) fun H8 k8 e8 => ?_
        have nda := ne_of_none f7 hd
        have ndb := ne_of_none e7 hd
        have n1 := (P7.off hd).1
        have n2 := (P7.off hd).2
        have hdH := k7.dom _ hd
        have hbH := k3.dom _ hb
        refine k ss ms d a b H8 ⟨e8, ⟨xs, by walk_at "tr", by walk_at "tr"⟩, ⟨ys, by walk_at "tr", by walk_at "tr"⟩, nab⟩ ?_ hdH ha hbH ((by walk_at "kp" : Keep [d, p] H H8).cut hdH) (by walk_at "tr")
        have n5l : n5.toNat ≤ 5 := by omega
        have n6l : n6.toNat ≤ 3 := by omega
        exact ⟨⟨by omega, by omega, fun s hs => (o3 s hs).1, fun m hm => (m7 m hm).1, nodup_words ht (w3.app w7) (idx_bound (by omega) (by omega)) (idx_nodup (by omega)), en7⟩, fun m hm => (m7 m hm).2, fun s hs => (o3 s hs).2, by omega⟩
end
/-- the rows of a positional system -/
def IsReg (ss : List SR) (ms : List MR) : Prop := ∃ (b : Int) (n : Nat) (u u2 : Bool), 2 ≤ b ∧ b ≤ 6 ∧ n ≤ 2 ∧ ss.map (·.v) = (List.range (b - 1).toNat).map (fun j => Int.ofNat j + 1) ∧
  ms.map (fun m => (m.v, m.c, m.u, m.r)) = (List.range n).map (fun j => (b ^ (j + 1), some (b - 1), u, b ^ (j + 1) - 1)) ++ [(b ^ (n + 1), none, u2, b ^ (n + 1) - 1)]
theorem pw_le {b : Int} {i : Nat} (h1 : 2 ≤ b) (h2 : b ≤ 6) (h3 : i ≤ 2) : 2 ≤ b ^ (i + 1) ∧ b ^ (i + 1) ≤ 216 := by
  have hb : b = 2 ∨ b = 3 ∨ b = 4 ∨ b = 5 ∨ b = 6 := by omega
  have hi : i = 0 ∨ i = 1 ∨ i = 2 := by omega
  rcases hb with rfl | rfl | rfl | rfl | rfl <;> rcases hi with rfl | rfl | rfl <;> decide
theorem idx_nodup1 {a b : Nat} (ha : a ≤ 10) (hb : b ≤ 10) : ((List.range a).map Int.ofNat ++ ((List.range b).map (fun j => 10 + Int.ofNat j) ++ [20])).Nodup := by
  rw [← List.append_assoc, List.nodup_append]
  refine ⟨idx_nodup ha, by simp, fun x hx y hy e => ?_⟩
  rw [List.mem_singleton] at hy
  subst hy e
  rcases List.mem_append.mp hx with h | h
  · obtain ⟨i, hi, e⟩ := List.mem_map.mp h
    rw [List.mem_range] at hi
    simp only [Int.ofNat_eq_natCast] at e
    omega
  · obtain ⟨i, hi, e⟩ := List.mem_map.mp h
    rw [List.mem_range] at hi
    simp only [Int.ofNat_eq_natCast] at e
    omega
section
variable {P : Program} {w : World} {K : PySem.W.Frag} {mg : Str → Option Value} {base : Heap}
theorem c_l_regular (T : Txt K mg) : Cal P w K mg base CX0 "_law_regular" 5 ["_law_pool_here"] (spRows K fun ss ms => Wf ss ms ∧ IsReg ss ms) := by
  refine T.d_l_regular.ok sc_l_regular (fun vs H Q E h => ?_) (fun f cdv A outer s H vs Q E hr h => ?_)
  · obtain ⟨t, p, c, rfl, _⟩ := h
    rfl
  · obtain ⟨t, p, c, rfl, hP, k⟩ := h
    refine ⟨_, (pss_cons (ps_set (i := 1) sc_l_regular.nd rfl (Or.inl rfl) (pe_op (k_add K rfl) pe_int (pe_cal (c_l_take T) hr (by omega) rfl pass0 (pa_cons (pv 0) (pa_cons pe_int pa_nil)))))
      (pss_cons (ps_set (i := 2) sc_l_regular.nd rfl (Or.inl rfl) (pe_cmpR (k_eq K rfl hr) (pe_cal (c_l_take T) hr (by omega) rfl pass0 (pa_cons (pv 0) (pa_cons pe_int pa_nil))) pe_int (nomark _)))
      (pss_cons (ps_setLc (i := 3) (own := [("_law_k", 4)]) (g := (gName 4)) (tt := tYes) rfl sc_l_regular.nd rfl rfl (sw_true rfl rfl rfl (by decide +kernel)) (pi_range1 rfl T.b_range (pa_cons (pe_op (o_sub) (pv 1) pe_int) pa_nil)) (blkOk_by (N := ["_law_pool_here", "_law_base", "_law_is_unsaid", "_law_simple", "_law_k", "_law_multipliers", "_law_value"]) (sc := defScope s_l_regular) (by decide +kernel)) (fun _ _ _ _ _ => (pg_name (i := 4) sc_l_regular.nd rfl (Or.inl rfl))) (fun _ _ _ _ _ => pts_nil) (fun _ _ _ _ _ => (pe_tup (pa_cons (pe_cal (c_l_word T) hr (by omega) rfl pass0 (pa_cons (pv 0) (pa_cons (pv 4) pa_nil))) (pa_cons (pe_op (k_add K rfl) (pv 4) pe_int) pa_nil)))))
      (pss_cons (ps_set (i := 5) sc_l_regular.nd rfl (Or.inl rfl) (pe_lst pa_nil))
      (pss_cons (ps_set (i := 6) sc_l_regular.nd rfl (Or.inl rfl) (pv 1))
      (pss_cons (ps_for PassesOwn.never rfl (pi_range1 rfl T.b_range (pa_cons (pe_cal (c_l_take T) hr (by omega) rfl pass0 (pa_cons (pv 0) (pa_cons pe_int pa_nil))) pa_nil)) (pg_name (i := 4) sc_l_regular.nd rfl (Or.inl rfl)) (pss_cons (ps_expr (k_bm K rfl PySem.F.plainAttrs_list PySem.F.slot_list_append PySem.F.type_list_append mt_append (pv 5) (pa_cons (pe_tup (pa_cons (pe_cal (c_l_word T) hr (by omega) rfl pass0 (pa_cons (pv 0) (pa_cons (pe_op (k_add K rfl) pe_int (pv 4)) pa_nil))) (pa_cons (pv 6) (pa_cons (pe_op (o_sub) (pv 1) pe_int) (pa_cons (pv 2) (pa_cons (pe_op (o_sub) (pv 6) pe_int) pa_nil)))))) pa_nil)))
      (pss_one (ps_set (i := 6) sc_l_regular.nd rfl (Or.inl rfl) (pe_op (o_mul) (pv 6) (pv 1))))))
      (pss_cons (ps_expr (k_bm K rfl PySem.F.plainAttrs_list PySem.F.slot_list_append PySem.F.type_list_append mt_append (pv 5) (pa_cons (pe_tup (pa_cons (pe_cal (c_l_word T) hr (by omega) rfl pass0 (pa_cons (pv 0) (pa_cons pe_int pa_nil))) (pa_cons (pv 6) (pa_cons pe_non (pa_cons (pe_cmpR (k_eq K rfl hr) (pe_cal (c_l_take T) hr (by omega) rfl pass0 (pa_cons (pv 0) (pa_cons pe_int pa_nil))) pe_int (nomark _)) (pa_cons (pe_op (o_sub) (pv 6) pe_int) pa_nil)))))) pa_nil)))
      (pss_one (ps_ret (pe_disp (pps_cons pe_str (pv 3) (pps_cons pe_str (pv 5) pps_nil)) (by rfl) (by rfl) (fun z => by cases z) (by decide))))))))))), ?_⟩
    refine i_st (σ' := [some _, none, none, none, none, none, none]) rfl ?_
    have ht := hP.nn
    walk_at "go"
    rename_i b' _ b1 b2 _ _ u' H1 _ _ _ P1
    have bb1 : 2 ≤ 2 + b' := by omega
    have bb2 : 2 + b' ≤ 6 := by omega
    generalize hb : 2 + b' = b at bb1 bb2 ⊢
    generalize hu : decide (u' = 1) = u
    have k1 : Keep [p] H H1 := by walk_at "kp"
    refine i_lcW (walk_rng0 (n := (b - 1).toNat)) (fun D i acc H' => ∃ ss, Al (SRow K H') acc ss ∧ ss.map (·.v) = (List.range i).map (fun j => Int.ofNat j + 1) ∧
      Al (fun x n => Wd t n x) (ss.map (·.w)) ((List.range i).map Int.ofNat) ∧ (∀ s ∈ ss, SOk s) ∧ Keep [p] H1 H' ∧ PoolAt t H' p c) (by walk_at "st") ?_ ?_ ?_ ?_
    · exact fun D H' hD kp e => ⟨[], .nil, rfl, .nil, by simp, kp.wid0, by walk_at "tr"⟩
    · exact fun _ _ _ _ _ _ _ _ => trivial
    · rintro D i x acc H2 H3 hi hD e l ⟨ss, r3, v3, w3, o3, k3, P3⟩ ⟨rfl, rfl⟩
      walk_at "go"
      refine ⟨rfl, ?_⟩
      walk_at "go"
      rename_i x H4 hw _ _ T5 H5 _ _ e5
      have nD := P1.off hD
      have nD1 := nD.1
      have nD2 := nD.2
      have l4 := r3.len
      refine i_lcY (by walk_at "tr") l (by omega) fun H6 k6 e6 => ⟨ss ++ [⟨x, i + 1⟩], (by walk_at "tr" : Al (SRow K H6) acc ss).snoc (SRow.new _ (by walk_at "tr")), ?_, ?_, ?_, (by walk_at "kp" : Keep [D, p] H1 H6).cut hD, by walk_at "tr"⟩
      · rw [List.map_append, List.range_succ, List.map_append, v3]
        rfl
      · rw [List.map_append, rng_snoc]
        exact w3.snoc hw
      · exact mem_snoc o3 ⟨hw.1, by show 1 ≤ (i : Int) + 1; omega, by show (i : Int) + 1 ≤ 100000; omega⟩
    · rintro a xs H2 ha' ea la ⟨ss, r2, v2, w2, o2, k2, P2⟩
      have ha := k1.dom _ ha'
      have na1 := (hP.off ha).1
      have na2 := (hP.off ha).2
      walk_at "go"
      refine i_new (sz (by simp)) fun d H3 hd k3 e3 => ?_
      have nd1 := (P2.off hd).1
      have nd2 := (P2.off hd).2
      have nad := ne_of_none ea hd
      have hdH : H d = none := k1.dom _ (k2.dom _ hd)
      walk_at "go"
      rename_i n5 H5 h5 h5' k5 P5
      refine i_forW (walk_rng0 (n := n5.toNat)) (fun i σ H' => ∃ o ys ms, σ = [some (.ref p), some (.int b), some (.bl u), some (.ref a), o, some (.ref d), some (.int (b ^ (i + 1)))] ∧ H' d = some (.lst ys) ∧ Al (MRow K H') ys ms ∧
        ms.map (fun m => (m.v, m.c, m.u, m.r)) = (List.range i).map (fun j => (b ^ (j + 1), some (b - 1), u, b ^ (j + 1) - 1)) ∧ Al (fun x n => Wd t n x) (ms.map (·.w)) ((List.range i).map fun j => 10 + Int.ofNat j) ∧ (∀ m ∈ ms, MOk m) ∧
        (ms.filter fun m => m.c.isNone) = [] ∧ H' a = some (.lst xs) ∧ Al (SRow K H') xs ss ∧ Keep [p] H H' ∧ PoolAt t H' p c) ?_ ?_ ?_ ?_
      · exact ⟨none, [], [], by rw [show b ^ (0 + 1) = b by rw [Nat.zero_add, Int.pow_succ, Int.pow_zero, Int.one_mul]], by walk_at "tr", .nil, rfl, .nil, by simp, by simp, by walk_at "tr", by walk_at "tr", (by walk_at "kp" : Keep [p] H H5), P5⟩
      · exact fun _ _ _ _ _ => trivial
      · rintro i x σ H6 H7 hi ⟨o, ys, ms, rfl, e7, r7, v7, w7, m7, en7, f7, g7, k7, P7⟩ ⟨rfl, rfl⟩
        have pb := pw_le bb1 bb2 (show i ≤ 2 by omega)
        have pb2 := pw_le bb1 bb2 (show i + 1 ≤ 2 by omega)
        walk_at "go"
        rename_i x _ hw _ _ T8 H8 _ _ e8
        have l7 := r7.len
        have l7' : ms.length = i := by have := congrArg List.length v7; simpa using this
        refine i_app (xs := ys) (by walk_at "tr") (sz' (by omega)) fun H9 k9 e9 => ?_
        walk_at "go"
        refine ⟨_, _, ms ++ [⟨x, b ^ (i + 1), some (b - 1), u, b ^ (i + 1) - 1⟩], by rw [Int.pow_succ b (i + 1)], e9, (by walk_at "tr" : Al (MRow K H9) ys ms).snoc (MRow.new _ (by walk_at "tr")), ?_, ?_, ?_, ?_, by walk_at "tr", by walk_at "tr", (by walk_at "kp" : Keep [d, p] H H9).cut hdH, by walk_at "tr"⟩
        · rw [List.map_append, List.range_succ, List.map_append, v7]
          rfl
        · rw [List.map_append, List.range_succ, List.map_append]
          exact w7.snoc hw
        · refine mem_snoc m7 ⟨hw.1, pb.1, by show b ^ (i + 1) ≤ 100000; omega, fun c hc => ?_, by show 0 ≤ b ^ (i + 1) - 1; omega, by show b ^ (i + 1) - 1 < b ^ (i + 1); omega⟩
          have hc : some (b - 1) = some c := hc
          injection hc with hc
          subst hc
          refine ⟨by omega, by omega, ?_⟩
          show (b - 1) * b ^ (i + 1) + (b ^ (i + 1) - 1) ≤ 100000
          rw [Int.pow_succ b (i + 1)] at pb2
          rw [Int.sub_mul, Int.mul_comm b]
          omega
        · rw [List.filter_append, en7]
          simp
      · rintro σ H6 ⟨o, ys, ms, rfl, e7, r7, v7, w7, m7, en7, f7, g7, k7, P7⟩
        have pb := pw_le bb1 bb2 (show n5.toNat ≤ 2 by omega)
        walk_at "go"
        rename_i x _ hw _ _ q2 _ _ _ _ _ T8 H8 _ _ e8
        have l7 := r7.len
        have l7' : ms.length = n5.toNat := by have := congrArg List.length v7; simpa using this
        refine i_app (xs := ys) (by walk_at "tr") (sz' (by omega)) fun H9 k9 e9 => ?_
        refine i_disp fun g H10 hg k10 e10 => ?_
        walk_at "go"
        refine i_dispK [(.inr "simple", .ref a), (.inr "multipliers", .ref d)] e10 rfl (by simp) fun H11 k11 e11 => ?_
        have P10 : PoolAt t H9 p c := by walk_at "tr"
        have f9 : H9 a = some (.lst xs) := by walk_at "tr"
        have nga := ne_of_none f9 hg
        have ngd := ne_of_none e9 hg
        have n1 := (P10.off hg).1
        have n2 := (P10.off hg).2
        have hgH : H g = none := Keep.dom ((by walk_at "kp" : Keep [d, p] H H9).cut hdH) _ hg
        have n5l : n5.toNat ≤ 2 := by omega
        have ssl : ss.length = (b - 1).toNat := by have := congrArg List.length v2; simpa using this
        refine k ss (ms ++ [⟨x, b ^ (n5.toNat + 1), none, decide (q2 = 1), b ^ (n5.toNat + 1) - 1⟩]) g a d H11 ⟨e11, ⟨xs, by walk_at "tr", by walk_at "tr"⟩, ⟨_, by walk_at "tr", (by walk_at "tr" : Al (MRow K H11) ys ms).snoc (MRow.new _ (by walk_at "tr"))⟩, nad⟩ ⟨⟨?_, ?_, o2, ?_, ?_, ?_⟩, ?_⟩ hgH ha hdH
          ((by walk_at "kp" : Keep [g, d, p] H H11).cut hgH |>.cut hdH) (by walk_at "tr")
        · omega
        · rw [List.length_append]
          simp
          omega
        · exact mem_snoc m7 ⟨hw.1, pb.1, by show b ^ (n5.toNat + 1) ≤ 100000; omega, (fun c hc => by cases (show (none : Option Int) = some c from hc)), by show 0 ≤ b ^ (n5.toNat + 1) - 1; omega, by show b ^ (n5.toNat + 1) - 1 < b ^ (n5.toNat + 1); omega⟩
        · rw [List.map_append]
          refine nodup_words ht (w2.app (w7.snoc hw)) ?_ (idx_nodup1 (by omega) (by omega))
          rw [← List.append_assoc]
          exact mem_snoc (idx_bound (by omega) (by omega)) (by omega)
        · rw [List.filter_append, en7]
          simp
        · refine ⟨b, n5.toNat, u, decide (q2 = 1), bb1, bb2, n5l, v2, ?_⟩
          rw [List.map_append, v7]
          rfl
end
theorem IsReg.sl {ss : List SR} {ms : List MR} (h : IsReg ss ms) : ss.length ≤ 5 := by
  obtain ⟨b, n, u, u2, h1, h2, h3, h4, h5⟩ := h
  have hl := congrArg List.length h4
  simp only [List.length_map, List.length_range] at hl
  omega
theorem IsReg.bd {ss : List SR} {ms : List MR} (h : IsReg ss ms) : ms.length ≤ 3 ∧ 1 ≤ ms.length ∧ ∀ m ∈ ms, m.v ≤ 216 ∧ ∀ c, m.c = some c → c ≤ 5 := by
  obtain ⟨b, n, u, u2, h1, h2, h3, h4, h5⟩ := h
  have hl := congrArg List.length h5
  simp only [List.length_map, List.length_append, List.length_range, List.length_singleton] at hl
  refine ⟨by omega, by omega, fun m hm => ?_⟩
  have hm' : (m.v, m.c, m.u, m.r) ∈ ms.map (fun m => (m.v, m.c, m.u, m.r)) := List.mem_map.mpr ⟨m, hm, rfl⟩
  rw [h5] at hm'
  rcases List.mem_append.mp hm' with h | h
  · obtain ⟨j, hj, e⟩ := List.mem_map.mp h
    rw [List.mem_range] at hj
    simp only [Prod.mk.injEq] at e
    have := pw_le h1 h2 (show j ≤ 2 by omega)
    refine ⟨by omega, fun c hc => ?_⟩
    rw [← e.2.1] at hc
    injection hc with hc
    omega
  · rw [List.mem_singleton] at h
    simp only [Prod.mk.injEq] at h
    have := pw_le h1 h2 h3
    refine ⟨by omega, fun c hc => ?_⟩
    rw [h.2.1] at hc
    cases hc
theorem spRows.use {K : PySem.W.Frag} {C : List SR → List MR → Prop} {t : Int} {p c : Addr} {H : Hp} {Q : VK} {E : XK} (hP : PoolAt t H p c)
    (k : ∀ (ss : List SR) (ms : List MR) (d a b : Addr) (H' : Hp), RowsAt K H' d a b ss ms → C ss ms → H d = none → H a = none → H b = none → Keep [p] H H' → PoolAt t H' p c → Q (.ref d) H') : spRows K C ([.ref p] ++ []) H Q E := ⟨t, p, c, rfl, hP, k⟩
theorem IsReg.bnd {ss : List SR} {ms : List MR} (h : IsReg ss ms) (wf : Wf ss ms) : (∀ m ∈ ms, m.v ≤ 1000) ∧ (∀ s ∈ ss, s.v ≤ 6) := by
  refine ⟨fun m hm => ?_, fun s hs => ?_⟩
  · have := (h.bd.2.2 m hm).1
    omega
  · obtain ⟨b, n, u, u2, h1, h2, h3, h4, h5⟩ := h
    have : s.v ∈ ss.map (·.v) := List.mem_map.mpr ⟨s, hs, rfl⟩
    rw [h4] at this
    obtain ⟨j, hj, e⟩ := List.mem_map.mp this
    rw [List.mem_range] at hj
    simp only [Int.ofNat_eq_natCast] at e
    omega
theorem filter_len (l : List MR) : (l.filter fun m => m.c.isNone).length = ((l.map fun m => m.c.isNone).filter id).length := by
  rw [List.filter_map, List.length_map]
  rfl
theorem List.set_getElem?_self' {α : Type} {l : List α} {i : Nat} {x : α} (h : l[i]? = some x) : l.set i x = l := by
  apply List.ext_getElem?
  intro j
  rw [List.getElem?_set]
  split
  · rename_i e
    subst e
    have := (List.getElem?_eq_some_iff.mp h).1
    rw [if_pos this, h]
  · rfl
section
variable {P : Program} {w : World} {K : PySem.W.Frag} {mg : Str → Option Value} {base : Heap}
theorem c_l_nearly (T : Txt K mg) : Cal P w K mg base CX0 "_law_nearly" 6 ["_law_pool_here"] (spRows K WfS) := by
  refine T.d_l_nearly.ok sc_l_nearly (fun vs H Q E h => ?_) (fun f cdv A outer s H vs Q E hr h => ?_)
  · obtain ⟨t, p, c, rfl, _⟩ := h
    rfl
  · obtain ⟨t, p, c, rfl, hP, k⟩ := h
    refine ⟨_, (pss_cons (ps_set (i := 1) sc_l_nearly.nd rfl (Or.inl rfl) (pe_cal (c_l_regular T) hr (by omega) rfl pass0 (pa_cons (pv 0) pa_nil)))
      (pss_cons (ps_set (i := 2) sc_l_nearly.nd rfl (Or.inl rfl) (pe_cal (c_l_take T) hr (by omega) rfl pass0 (pa_cons (pv 0) (pa_cons (pe_callB (k_len K rfl) rfl T.b_len (by decide +kernel) (pa_cons (pe_ix (k_ix K rfl hr) (pv 1) pe_str (fun _ _ => rfl)) pa_nil)) pa_nil))))
      (pss_cons (ps_asg (pe_ix (k_ix K rfl hr) (pe_ix (k_ix K rfl hr) (pv 1) pe_str (fun _ _ => rfl)) (pv 2) (fun _ _ => rfl)) (k_un (n := 5) K rfl rfl (pgs_cons (pg_name (i := 3) sc_l_nearly.nd rfl (Or.inl rfl)) (pgs_cons (pg_name (i := 4) sc_l_nearly.nd rfl (Or.inl rfl)) (pgs_cons (pg_name (i := 5) sc_l_nearly.nd rfl (Or.inl rfl)) (pgs_cons (pg_name (i := 6) sc_l_nearly.nd rfl (Or.inl rfl)) (pgs_cons (pg_name (i := 7) sc_l_nearly.nd rfl (Or.inl rfl)) pgs_nil)))))))
      (pss_cons (ps_set (i := 8) sc_l_nearly.nd rfl (Or.inl rfl) (pe_cal (c_l_take T) hr (by omega) rfl pass0 (pa_cons (pv 0) (pa_cons pe_int pa_nil))))
      (pss_cut (ps_if (PW.pt (pw_and (pt_cmpR (k_eq K rfl hr) (pv 8) pe_int (nomark _)) (pw_and1 (pt_cmpR o_notN (pv 5) pe_non (nomark _))))) (pss_one (ps_set (i := 5) sc_l_nearly.nd rfl (Or.inl rfl) (pe_op (k_add K rfl) (pe_op (k_add K rfl) (pv 5) pe_int) (pe_cal (c_l_take T) hr (by omega) rfl pass0 (pa_cons (pv 0) (pa_cons pe_int pa_nil)))))) pss_nil)
      (pss_cut (ps_if (pt_cmpR (k_eq K rfl hr) (pv 8) pe_int (nomark _)) (pss_one (ps_set (i := 6) sc_l_nearly.nd rfl (Or.inl rfl) (pe_not (pv 6)))) pss_nil)
      (pss_cut (ps_if (pt_cmpR (k_eq K rfl hr) (pv 8) pe_int (nomark _)) (pss_one (ps_set (i := 7) sc_l_nearly.nd rfl (Or.inl rfl) (pe_callB (k_max K rfl rfl) rfl T.b_max (by decide +kernel) (pa_cons pe_int (pa_cons (pe_op (o_sub) (pe_op (o_sub) (pv 7) pe_int) (pe_cal (c_l_take T) hr (by omega) rfl pass0 (pa_cons (pv 0) (pa_cons pe_int pa_nil)))) pa_nil))))) pss_nil)
      (pss_cut (ps_if (pt_cmpR (k_eq K rfl hr) (pv 8) pe_int (nomark _)) (pss_one (ps_set (i := 4) sc_l_nearly.nd rfl (Or.inl rfl) (pe_op (k_add K rfl) (pv 4) pe_int))) pss_nil)
      (pss_cons (ps_asg (pe_tup (pa_cons (pv 3) (pa_cons (pv 4) (pa_cons (pv 5) (pa_cons (pv 6) (pa_cons (pv 7) pa_nil)))))) (pg_sub (pe_ix (k_ix K rfl hr) (pv 1) pe_str (fun _ _ => rfl)) (pv 2) (o_set hr)))
      (pss_one (ps_ret (pv 1)))))))))))), ?_⟩
    refine i_st (σ' := [some _, none, none, none, none, none, none, none, none]) rfl ?_
    walk_at "go"
    refine spRows.use hP fun ss ms d a b H1 R1 ⟨wf, reg⟩ hd ha hb k1 P1 => ?_
    obtain ⟨rb1, rb2, rb3⟩ := reg.bd
    have dict1 := R1.dict
    obtain ⟨xs, e1, r1⟩ := R1.sl
    obtain ⟨ys, e2, r2⟩ := R1.ml
    have nab := R1.ab
    have ndb : d ≠ b := fun e => by subst e; rw [dict1] at e2; cases e2
    have l2 := r2.len
    have nd1 := (hP.off hd).1
    have na1 := (hP.off ha).1
    have nb1 := (hP.off hb).1
    have nd2 := (hP.off hd).2
    have na2 := (hP.off ha).2
    have nb2 := (hP.off hb).2
    walk_at "go"
    rename_i at' H2 at0 at1 k2 P2
    have hat : at'.toNat < ms.length := by omega
    obtain ⟨m, hm⟩ : ∃ m, ms[at'.toNat]? = some m := ⟨ms[at'.toNat], by simp⟩
    obtain ⟨y, hy⟩ : ∃ y, ys[at'.toNat]? = some y := ⟨ys[at'.toNat]'(by omega), by simp⟩
    obtain ⟨m', hm', ⟨r, rfl, hr'⟩⟩ := r2.get hy
    rw [hm] at hm'
    injection hm' with hm'
    subst hm'
    have hmm := List.mem_of_getElem? hm
    obtain ⟨mw, mv1, mv2, mc, mr1, mr2⟩ := wf.mo m hmm
    obtain ⟨mb1, mb2⟩ := rb3 m hmm
    refine i_ixL (by walk_at "tr") (atI_of at0 hy) ?_
    have hr2 : SqT K H2 r _ := k2.sqT hr'
    walk_at "go"
    rename_i kd H3 kd0 kd1 k3 P3
    refine i_cut (fun σ' H' => ∃ cc : Option Int, σ' = [some (.ref p), some (.ref d), some (.int at'), some (.str m.w), some (.int m.v), some (vO cc), some (.bl m.u), some (.int m.r), some (.int kd)] ∧ (cc.isNone = m.c.isNone) ∧ (∀ c, cc = some c → 1 ≤ c ∧ c ≤ 8) ∧ Keep [p] H3 H' ∧ PoolAt t H' p c) ?_ ?_
    · walk_at "go"
      cases hc0 : m.c with
      | none =>
        refine i_ite (fun hz => ?_) fun hz => ?_
        · walk_at "go"
          exact ⟨none, rfl, rfl, fun c hc => (by cases hc), Keep.rfl', by assumption⟩
        · walk_at "go"
          exact ⟨none, rfl, rfl, fun c hc => (by cases hc), Keep.rfl', by assumption⟩
      | some c0 =>
        have hc5 := mb2 c0 hc0
        have hc1 := (mc c0 hc0).1
        refine i_ite (fun hz => ?_) fun hz => ?_
        · walk_at "go"
          exact ⟨some _, rfl, rfl, fun c hc => (by injection hc with hc; omega), (by walk_at "kp"), by assumption⟩
        · walk_at "go"
          exact ⟨some c0, rfl, rfl, fun c hc => (by injection hc with hc; omega), Keep.rfl', by assumption⟩
    · rintro σ' H4 ⟨cc, rfl, hc1, hc2, k4, P4⟩
      refine i_cut (fun σ' H' => ∃ u : Bool, σ' = [some (.ref p), some (.ref d), some (.int at'), some (.str m.w), some (.int m.v), some (vO cc), some (.bl u), some (.int m.r), some (.int kd)] ∧ H' = H4) ?_ ?_
      · walk_at "go"
        refine i_ite (fun hz => ?_) fun hz => ?_
        · walk_at "go"
          exact ⟨_, rfl, rfl⟩
        · walk_at "go"
          exact ⟨_, rfl, rfl⟩
      · rintro σ' H' ⟨u, rfl, rfl⟩
        refine i_cut (fun σ' H5 => ∃ r : Int, σ' = [some (.ref p), some (.ref d), some (.int at'), some (.str m.w), some (.int m.v), some (vO cc), some (.bl u), some (.int r), some (.int kd)] ∧ 0 ≤ r ∧ r < m.v ∧ Keep [p] H' H5 ∧ PoolAt t H5 p c) ?_ ?_
        · walk_at "go"
          refine i_ite (fun hz => ?_) fun hz => ?_
          · walk_at "go"
            exact ⟨_, rfl, by omega, by omega, by walk_at "kp", by assumption⟩
          · walk_at "go"
            exact ⟨_, rfl, by omega, by omega, Keep.rfl', by assumption⟩
        · rintro σ' H5 ⟨r, rfl, hr1, hr2, k5, P5⟩
          refine i_cut (fun σ' H' => ∃ v : Int, σ' = [some (.ref p), some (.ref d), some (.int at'), some (.str m.w), some (.int v), some (vO cc), some (.bl u), some (.int r), some (.int kd)] ∧ 2 ≤ v ∧ r < v ∧ v ≤ 217 ∧ H' = H5) ?_ ?_
          · walk_at "go"
            refine i_ite (fun hz => ?_) fun hz => ?_
            · walk_at "go"
              exact ⟨_, rfl, by omega, by omega, by omega, rfl⟩
            · walk_at "go"
              exact ⟨_, rfl, by omega, by omega, by omega, rfl⟩
          · rintro σ' H5 ⟨v, rfl, hv1, hv2, hv3, rfl⟩
            walk_at "go"
            rename_i T6 H6 _ k6 e6
            have jx : ixN ys.length at' = some at'.toNat := by
              unfold ixN
              rw [if_pos at0, if_pos (by omega)]
            refine i_setL (xs := ys) (by walk_at "tr") jx fun H7 k7 e7 => ?_
            walk_at "go"
            have hget : ms.set at'.toNat ⟨m.w, v, cc, u, r⟩ = ms.set at'.toNat ⟨m.w, v, cc, u, r⟩ := rfl
            have hwm : (ms.set at'.toNat ⟨m.w, v, cc, u, r⟩).map (·.w) = ms.map (·.w) := by
              rw [List.map_set]
              refine List.set_getElem?_self' ?_
              rw [List.getElem?_map, hm]
              rfl
            have hwn : (ms.set at'.toNat ⟨m.w, v, cc, u, r⟩).map (fun m => m.c.isNone) = ms.map (fun m => m.c.isNone) := by
              rw [List.map_set]
              refine List.set_getElem?_self' ?_
              rw [List.getElem?_map, hm]
              show some m.c.isNone = some cc.isNone
              rw [hc1]
            refine k ss (ms.set at'.toNat ⟨m.w, v, cc, u, r⟩) d a b H7 ⟨by walk_at "tr", ⟨xs, by walk_at "tr", by walk_at "tr"⟩, ⟨_, e7, (by walk_at "tr" : Al (MRow K H7) ys ms).set (MRow.new _ (by walk_at "tr")) _⟩, nab⟩ ⟨⟨wf.sl, ?_, wf.so, ?_, ?_, ?_⟩, ?_, (fun s hs => by have := (reg.bnd wf).2 s hs; omega), by have := reg.sl; omega⟩ hd ha hb
              ((by walk_at "kp" : Keep [b, p] H H7).cut hb) (by walk_at "tr")
            · rw [List.length_set]
              exact wf.ml
            · intro x hx
              rcases List.mem_or_eq_of_mem_set hx with h | rfl
              · exact wf.mo x h
              · refine ⟨mw, hv1, by show v ≤ 100000; omega, fun c hc => ?_, hr1, hv2⟩
                obtain ⟨h1, h2⟩ := hc2 c hc
                refine ⟨h1, by omega, ?_⟩
                show c * v + r ≤ 100000
                have h3 : c * v ≤ 8 * v := Int.mul_le_mul_of_nonneg_right h2 (by omega)
                omega
            · rw [hwm]
              exact wf.nd
            · rw [filter_len, hwn, ← filter_len]
              exact wf.en
            · intro x hx
              rcases List.mem_or_eq_of_mem_set hx with h | rfl
              · have := (rb3 x h).1
                omega
              · show v ≤ 1000
                omega
end
/-! ### English words -/
def enS : List SR := [⟨"one", 1⟩, ⟨"two", 2⟩, ⟨"three", 3⟩, ⟨"four", 4⟩, ⟨"five", 5⟩, ⟨"six", 6⟩, ⟨"seven", 7⟩, ⟨"eight", 8⟩, ⟨"nine", 9⟩, ⟨"ten", 10⟩, ⟨"eleven", 11⟩, ⟨"twelve", 12⟩, ⟨"thirteen", 13⟩, ⟨"fourteen", 14⟩, ⟨"fifteen", 15⟩, ⟨"sixteen", 16⟩]
def enT : List SR := [⟨"twenty", 20⟩, ⟨"thirty", 30⟩, ⟨"forty", 40⟩, ⟨"fifty", 50⟩, ⟨"sixty", 60⟩, ⟨"seventy", 70⟩, ⟨"eighty", 80⟩]
def enM (s : SR) : MR := ⟨s.w, s.v, some 1, true, 9⟩
def enH (c : Option Int) : List MR := [⟨"hundred", 100, some 9, false, 99⟩, ⟨"thousand", 1000, c, false, 999⟩]
instance (w : Str) : Decidable (Wok w) := inferInstanceAs (Decidable (_ ∧ _ ∧ _ ∧ _))
theorem enS_ok : ∀ s ∈ enS, SOk s := by
  have h : ∀ s ∈ enS, Wok s.w ∧ 1 ≤ s.v ∧ s.v ≤ 100000 := by decide +kernel
  exact h
theorem enT_ok : ∀ s ∈ enT.take 3, Wok s.w ∧ 20 ≤ s.v ∧ s.v ≤ 100 := by decide +kernel
theorem en_nd : (enS.map (·.w) ++ ((enT.take 3).map (·.w) ++ [("hundred" : Str), ("thousand" : Str)])).Nodup := by decide +kernel
theorem en_wf (n d : Nat) (hn : n ≤ 16) (hd : d ≤ 3) (c : Option Int) (hc : c = none ∨ c = some 99) : Wf (enS.take n) ((enT.take d).map enM ++ enH c) := by
  have hsub : enT.take d = (enT.take 3).take d := by rw [List.take_take, Nat.min_eq_left hd]
  have hmem : ∀ s ∈ enT.take d, s ∈ enT.take 3 := fun s hs => by rw [hsub] at hs; exact List.mem_of_mem_take hs
  have hl : (enT.take d).length ≤ 3 := by rw [List.length_take]; omega
  refine ⟨?_, ?_, fun s hs => enS_ok s (List.mem_of_mem_take hs), fun m hm => ?_, ?_, ?_⟩
  · rw [List.length_take]; omega
  · rw [List.length_append, List.length_map]
    show _ + 2 ≤ 6
    omega
  · rcases List.mem_append.mp hm with h | h
    · obtain ⟨s, hs, rfl⟩ := List.mem_map.mp h
      obtain ⟨h1, h2, h3⟩ := enT_ok s (hmem s hs)
      refine ⟨h1, by show 2 ≤ s.v; omega, by show s.v ≤ 100000; omega, fun c hc => ?_, by show (0 : Int) ≤ 9; omega, by show 9 < s.v; omega⟩
      have hc : some 1 = some c := hc
      injection hc with hc
      subst hc
      refine ⟨by omega, by omega, ?_⟩
      show 1 * s.v + 9 ≤ 100000
      omega
    · have hw : Wok "hundred" ∧ Wok "thousand" := by decide +kernel
      rcases List.mem_cons.mp h with rfl | h
      · refine ⟨hw.1, by show (2 : Int) ≤ 100; omega, by show (100 : Int) ≤ 100000; omega, fun c hc => ?_, by show (0 : Int) ≤ 99; omega, by show (99 : Int) < 100; omega⟩
        have hc : some 9 = some c := hc
        injection hc with hc
        subst hc
        refine ⟨by omega, by omega, ?_⟩
        show (9 : Int) * 100 + 99 ≤ 100000
        omega
      · rw [List.mem_singleton] at h
        subst h
        refine ⟨hw.2, by show (2 : Int) ≤ 1000; omega, by show (1000 : Int) ≤ 100000; omega, fun c' hc' => ?_, by show (0 : Int) ≤ 999; omega, by show (999 : Int) < 1000; omega⟩
        have hc' : c = some c' := hc'
        rcases hc with rfl | rfl
        · cases hc'
        · injection hc' with hc'
          subst hc'
          refine ⟨by omega, by omega, ?_⟩
          show (99 : Int) * 1000 + 999 ≤ 100000
          omega
  · refine List.Nodup.sublist ?_ en_nd
    have e1 : ((enT.take d).map enM ++ enH c).map (·.w) = (enT.take d).map (·.w) ++ [("hundred" : Str), ("thousand" : Str)] := by
      rw [List.map_append, List.map_map]
      rfl
    rw [e1]
    refine List.Sublist.append ((List.take_sublist n enS).map _) (List.Sublist.append ?_ (List.Sublist.refl _))
    rw [hsub]
    exact (List.take_sublist d _).map _
  · rw [List.filter_append, List.length_append]
    have e1 : ((enT.take d).map enM).filter (fun m => m.c.isNone) = [] := by
      rw [List.filter_eq_nil_iff]
      intro m hm
      obtain ⟨s, _, rfl⟩ := List.mem_map.mp hm
      exact Bool.false_ne_true
    rw [e1]
    rcases hc with rfl | rfl <;> decide
theorem en_ss (d : Nat) : ∀ s ∈ enS.take d, s.v ≤ 1000 := by
  intro s hs
  have z : ∀ s ∈ enS, s.v ≤ 1000 := by decide
  exact z s (List.mem_of_mem_take hs)
theorem en_sm (d : Nat) (c : Option Int) : ∀ m ∈ (enT.take d).map enM ++ enH c, m.v ≤ 1000 := by
  intro m hm
  rcases List.mem_append.mp hm with h | h
  · obtain ⟨s, hs, rfl⟩ := List.mem_map.mp h
    have z : ∀ s ∈ enT, s.v ≤ 1000 := by decide
    exact z s (List.mem_of_mem_take hs)
  · rcases List.mem_cons.mp h with rfl | h
    · exact (by decide : (100 : Int) ≤ 1000)
    · rw [List.mem_singleton] at h
      subst h
      exact (by decide : (1000 : Int) ≤ 1000)
section
variable {P : Program} {w : World} {K : PySem.W.Frag} {mg : Str → Option Value} {base : Heap}
theorem c_l_english (T : Txt K mg) : Cal P w K mg base CX0 "_law_english" 5 ["_law_pool_here"] (spRows K WfS) := by
  refine T.d_l_english.ok sc_l_english (fun vs H Q E h => ?_) (fun f cdv A outer s H vs Q E hr h => ?_)
  · obtain ⟨t, p, c, rfl, _⟩ := h
    rfl
  · obtain ⟨t, p, c, rfl, hP, k⟩ := h
    refine ⟨_, (pss_cons (ps_set (i := 1) sc_l_english.nd rfl (Or.inr rfl) (pe_lst (pa_cons pe_str (pa_cons pe_str (pa_cons pe_str (pa_cons pe_str (pa_cons pe_str (pa_cons pe_str (pa_cons pe_str (pa_cons pe_str (pa_cons pe_str (pa_cons pe_str (pa_cons pe_str (pa_cons pe_str pa_nil))))))))))))))
      (pss_cons (ps_set (i := 1) sc_l_english.nd rfl (Or.inr rfl) (pe_op (k_add K rfl) (pv 1) (pe_lst (pa_cons pe_str (pa_cons pe_str (pa_cons pe_str (pa_cons pe_str pa_nil)))))))
      (pss_cons (ps_setLc (i := 2) (own := [("_law_k", 3)]) (g := (gName 3)) (tt := tYes) rfl sc_l_english.nd rfl rfl (sw_true rfl rfl rfl (by decide +kernel)) (pi_range1 rfl T.b_range (pa_cons (pe_op (k_add K rfl) pe_int (pe_cal (c_l_take T) hr (by omega) rfl pass0 (pa_cons (pv 0) (pa_cons pe_int pa_nil)))) pa_nil)) (blkOk_by (N := ["_law_pool_here", "_law_names", "_law_simple", "_law_k", "_law_multipliers", "_law_tens", "_law_word_here", "_law_value"]) (sc := defScope s_l_english) (by decide +kernel)) (fun _ _ _ _ _ => (pg_name (i := 3) sc_l_english.nd rfl (Or.inl rfl))) (fun _ _ _ _ _ => pts_nil) (fun _ _ _ _ _ => (pe_tup (pa_cons (pe_ix (k_ix K rfl hr) (pv 1) (pv 3) (fun _ _ => rfl)) (pa_cons (pe_op (k_add K rfl) (pv 3) pe_int) pa_nil)))))
      (pss_cons (ps_set (i := 4) sc_l_english.nd rfl (Or.inl rfl) (pe_lst pa_nil))
      (pss_cons (ps_set (i := 5) sc_l_english.nd rfl (Or.inl rfl) (pe_lst (pa_cons (pe_tup (pa_cons pe_str (pa_cons pe_int pa_nil))) (pa_cons (pe_tup (pa_cons pe_str (pa_cons pe_int pa_nil))) (pa_cons (pe_tup (pa_cons pe_str (pa_cons pe_int pa_nil))) (pa_cons (pe_tup (pa_cons pe_str (pa_cons pe_int pa_nil))) (pa_cons (pe_tup (pa_cons pe_str (pa_cons pe_int pa_nil))) (pa_cons (pe_tup (pa_cons pe_str (pa_cons pe_int pa_nil))) (pa_cons (pe_tup (pa_cons pe_str (pa_cons pe_int pa_nil))) pa_nil)))))))))
      (pss_cons (ps_for PassesOwn.never rfl (k_sq K rfl (pe_slice (k_sl K rfl) (pv 5) po_none (po_some (pe_cal (c_l_take T) hr (by omega) rfl pass0 (pa_cons (pv 0) (pa_cons pe_int pa_nil)))))) (k_un (n := 2) K rfl rfl (pgs_cons (pg_name (i := 6) sc_l_english.nd rfl (Or.inl rfl)) (pgs_cons (pg_name (i := 7) sc_l_english.nd rfl (Or.inl rfl)) pgs_nil))) (pss_one (ps_expr (k_bm K rfl PySem.F.plainAttrs_list PySem.F.slot_list_append PySem.F.type_list_append mt_append (pv 4) (pa_cons (pe_tup (pa_cons (pv 6) (pa_cons (pv 7) (pa_cons pe_int (pa_cons pe_bl (pa_cons pe_int pa_nil)))))) pa_nil)))))
      (pss_cons (ps_expr (k_bm K rfl PySem.F.plainAttrs_list PySem.F.slot_list_append PySem.F.type_list_append mt_append (pv 4) (pa_cons (pe_tup (pa_cons pe_str (pa_cons pe_int (pa_cons pe_int (pa_cons pe_bl (pa_cons pe_int pa_nil)))))) pa_nil)))
      (pss_cons (ps_expr (k_bm K rfl PySem.F.plainAttrs_list PySem.F.slot_list_append PySem.F.type_list_append mt_append (pv 4) (pa_cons (pe_tup (pa_cons pe_str (pa_cons pe_int (pa_cons (pe_ix (k_ix K rfl hr) (pe_tup (pa_cons pe_non (pa_cons pe_int pa_nil))) (pe_cal (c_l_take T) hr (by omega) rfl pass0 (pa_cons (pv 0) (pa_cons pe_int pa_nil))) (fun _ _ => rfl)) (pa_cons pe_bl (pa_cons pe_int pa_nil)))))) pa_nil)))
      (pss_one (ps_ret (pe_disp (pps_cons pe_str (pv 2) (pps_cons pe_str (pe_slice (k_sl K rfl) (pv 4) po_none (po_some pe_int)) pps_nil)) (by rfl) (by rfl) (fun z => by cases z) (by decide)))))))))))), ?_⟩
    refine i_st (σ' := [some _, none, none, none, none, none, none, none]) rfl ?_
    walk_at "go"
    refine i_new (sz (by simp)) fun l1 H1 hl1 k1 e1 => ?_
    walk_at "go"
    refine i_new (sz (by simp)) fun l2 H2 hl2 k2 e2 => ?_
    refine i_catL (k2.at e1 (by simp)) e2 (sz (by simp)) fun l3 H3 hl3 k3 e3 => ?_
    have P2 : PoolAt t H2 p c := by walk_at "tr"
    have n31 := (P2.off hl3).1
    have n32 := (P2.off hl3).2
    have hl3H : H l3 = none := Keep.dom (by walk_at "kp" : Keep [] H H2) _ hl3
    have e3 : H3 l3 = some (.lst ((enS.map (·.w)).map V.str)) := e3
    walk_at "go"
    rename_i d4 H4 d40 d41 k4 P4
    refine i_lcW (walk_rng0 (n := (1 + d4).toNat)) (fun D i acc H' => Al (SRow K H') acc (enS.take i) ∧ Keep [] H4 H') (by walk_at "st") ?_ ?_ ?_ ?_
    · exact fun D H' hD kp e => ⟨by rw [List.take_zero]; exact .nil, kp⟩
    · exact fun _ _ _ _ _ _ _ _ => trivial
    · rintro D i x acc H5 H6 hi hD e l ⟨r5, k5⟩ ⟨rfl, rfl⟩
      have hi2 : i < enS.length := by show i < 16; omega
      obtain ⟨s, hs⟩ : ∃ s, enS[i]? = some s := ⟨enS[i], by simp⟩
      have hv : s.v = (i : Int) + 1 := by
        have z : ∀ i : Nat, i < 16 → ∀ s, enS[i]? = some s → s.v = (i : Int) + 1 := by
          intro i hi s hs
          have z : ∀ i : Nat, i < 16 → (enS[i]?).map (fun s => s.v) = some ((i : Int) + 1) := by decide +kernel
          have := z i hi
          rw [hs] at this
          injection this
        exact z i (by omega) s hs
      walk_at "go"
      refine ⟨rfl, ?_⟩
      walk_at "go"
      refine i_ixL (v := .str s.w) (by walk_at "tr") (atI_nat (by rw [List.getElem?_map, List.getElem?_map, hs]; rfl)) ?_
      walk_at "go"
      rename_i T7 H7 _ k7 e7
      refine i_lcY (by walk_at "tr") l (by omega) fun H8 k8 e8 => ⟨?_, (by walk_at "kp" : Keep [D] H4 H8).cut hD⟩
      rw [take_snoc hs]
      exact (by walk_at "tr" : Al (SRow K H8) acc _).snoc (SRow.new _ (by rw [hv]; walk_at "tr"))
    · rintro a xs H5 ha ea la ⟨r5, k5⟩
      have P5 : PoolAt t H5 p c := by walk_at "tr"
      have haH : H a = none := Keep.dom (by walk_at "kp" : Keep [p] H H4) _ ha
      have na1 := (hP.off haH).1
      have na2 := (hP.off haH).2
      walk_at "go"
      refine i_new (sz (by simp)) fun b H6 hb k6 e6 => ?_
      have nab := ne_of_none ea hb
      have nb1 := (P5.off hb).1
      have nb2 := (P5.off hb).2
      have hbH : H b = none := Keep.dom (by walk_at "kp" : Keep [p] H H5) _ hb
      walk_at "go"
      refine i_new (sz (by simp)) fun g H7 hg k7 e7 => ?_
      obtain ⟨gs, eg, rg⟩ : ∃ gs, H7 g = some (.lst gs) ∧ Al (SRow K H7) gs enT := ⟨_, e7, .cons (SRow.new ⟨"twenty", 20⟩ (by walk_at "tr")) (.cons (SRow.new ⟨"thirty", 30⟩ (by walk_at "tr")) (.cons (SRow.new ⟨"forty", 40⟩ (by walk_at "tr"))
        (.cons (SRow.new ⟨"fifty", 50⟩ (by walk_at "tr")) (.cons (SRow.new ⟨"sixty", 60⟩ (by walk_at "tr")) (.cons (SRow.new ⟨"seventy", 70⟩ (by walk_at "tr")) (.cons (SRow.new ⟨"eighty", 80⟩ (by walk_at "tr")) .nil))))))⟩
      have P6 : PoolAt t H7 p c := by walk_at "tr"
      have b7 : H7 b = some (.lst []) := by walk_at "tr"
      have a7 : H7 a = some (.lst xs) := by walk_at "tr"
      have r7 : Al (SRow K H7) xs (enS.take (1 + d4).toNat) := by walk_at "tr"
      have kp7 : Keep [p] H H7 := by walk_at "kp"
      have hgb : g ≠ p := (P5.off (Keep.dom (by walk_at "kp" : Keep [] H5 _) _ hg)).1
      clear e7 e6
      walk_at "go"
      rename_i d8 H8 d80 d81 k8 P8
      refine i_slL (by walk_at "tr") fun l9 H9 hl9 k9 e9 => ?_
      rw [cut_to _ d80] at e9
      have r9 : Al (SRow K H9) (gs.take d8.toNat) (enT.take d8.toNat) := (by walk_at "tr" : Al (SRow K H9) gs enT).take _
      have nl9p := (P8.off hl9).1
      have b8 : H8 b = some (.lst []) := by walk_at "tr"
      have nl9b : b ≠ l9 := ne_of_none b8 hl9
      walk_at "go"
      refine i_forW (walk_list (xs := gs.take d8.toNat)) (fun i σ H' => ∃ o o6 o7 zs, σ = [some (.ref p), some (.ref l3), some (.ref a), o, some (.ref b), some (.ref g), o6, o7] ∧ H' b = some (.lst zs) ∧
        Al (MRow K H') zs (((enT.take d8.toNat).take i).map enM) ∧ Keep [b] H9 H') ?_ ?_ ?_ ?_
      · exact ⟨_, _, _, [], rfl, by walk_at "tr", by simp; exact .nil, Keep.rfl'⟩
      · rintro i σ H' hi ⟨o, o6, o7, zs, rfl, e10, r10, k10⟩
        exact SqL.of (k10.at e9 (by walk_at "ne"))
      · rintro i x σ H10 H11 hi ⟨o, o6, o7, zs, rfl, e10, r10, k10⟩ ⟨rfl, hx⟩
        obtain ⟨s, hs, ⟨r, rfl, hr'⟩⟩ := r9.get hx
        have hr2 := k10.sqT hr'
        have lz := r10.len
        walk_at "go"
        have lz' : zs.length < 8 := by
          rw [lz, List.length_map, List.length_take, List.length_take]
          have : enT.length = 7 := rfl
          omega
        refine i_app (xs := zs) (by walk_at "tr") (sz' (by omega)) fun H12 k12 e12 => ?_
        refine ⟨_, _, _, _, rfl, e12, ?_, by walk_at "kp"⟩
        rw [take_snoc hs, List.map_append]
        exact (by walk_at "tr" : Al (MRow K H12) zs _).snoc (MRow.new (enM s) (by walk_at "tr"))
      · rintro σ H10 ⟨o, o6, o7, zs, rfl, e10, r10, k10⟩
        walk_at "go"
        rename_i T11 H11 _ k11 e11
        rw [r9.len, List.take_length] at r10
        have lz' : zs.length < 8 := by
          rw [r10.len, List.length_map, List.length_take]
          have : enT.length = 7 := rfl
          omega
        refine i_app (xs := zs) (by walk_at "tr") (sz' (by omega)) fun H12 k12 e12 => ?_
        have P12 : PoolAt t H12 p c := by walk_at "tr"
        walk_at "go"
        rename_i T13 H13 _ k13 e13 d14 H14 d140 d141 k14 P14 T15 H15 _ k15 e15
        rw [show (if d14 = 0 then V.non else V.int 99) = vO (if d14 = 0 then none else some 99) by split <;> rfl] at e15
        generalize hcc : (if d14 = 0 then (none : Option Int) else some 99) = cc at e15
        have hcc : cc = none ∨ cc = some 99 := by
          rw [← hcc]
          split
          · exact .inl rfl
          · exact .inr rfl
        have l12 : zs.length = ((enT.take d8.toNat).map enM).length := r10.len
        refine i_app (xs := zs ++ [V.ref T11]) (by walk_at "tr") (sz' (by simp; omega)) fun H16 k16 e16 => ?_
        have r16 : Al (MRow K H16) ((zs ++ [V.ref T11]) ++ [V.ref T15]) ((enT.take d8.toNat).map enM ++ enH cc) := by
          have h1 : Al (MRow K H16) zs ((enT.take d8.toNat).map enM) := by walk_at "tr"
          have h2 := (h1.snoc (MRow.new ⟨"hundred", 100, some 9, false, 99⟩ (a := T11) (by walk_at "tr"))).snoc (MRow.new ⟨"thousand", 1000, cc, false, 999⟩ (a := T15) (by walk_at "tr"))
          have e : (enT.take d8.toNat).map enM ++ enH cc = ((enT.take d8.toNat).map enM ++ [⟨"hundred", 100, some 9, false, 99⟩]) ++ [⟨"thousand", 1000, cc, false, 999⟩] := by rw [List.append_assoc]; rfl
          rw [e]
          exact h2
        refine i_disp fun u H17 hu k17 e17 => ?_
        walk_at "go"
        refine i_slL (by walk_at "tr") fun v H18 hv k18 e18 => ?_
        walk_at "go"
        have ll : ((zs ++ [V.ref T11]) ++ [V.ref T15]).length ≤ 6 := by
          have hl : ((enT.take d8.toNat).map enM).length ≤ 3 := by rw [List.length_map, List.length_take]; omega
          simp only [List.length_append, List.length_singleton]
          omega
        rw [cut_to _ (by decide), show (6 : Int).toNat = 6 from rfl, List.take_of_length_le ll] at e18
        refine i_dispK [(.inr "simple", .ref a), (.inr "multipliers", .ref v)] (by walk_at "tr") rfl (by simp) fun H19 k19 e19 => ?_
        have huv : u ≠ v := ne_of_none e17 hv
        have a16 : H16 a = some (.lst xs) := by walk_at "tr"
        have ua := ne_of_none a16 hu
        have a17 : H17 a = some (.lst xs) := by walk_at "tr"
        have va := ne_of_none a17 hv
        have P16 : PoolAt t H16 p c := by walk_at "tr"
        have u1 := (P16.off hu).1
        have u2 := (P16.off hu).2
        have kpH : Keep [b, p] H H16 := by walk_at "kp"
        have huH := (kpH.cut hbH).dom _ hu
        have hvH := (kpH.cut hbH).dom _ (k17.dom _ hv)
        clear kpH
        refine k (enS.take (1 + d4).toNat) ((enT.take d8.toNat).map enM ++ enH cc) u a v H19 ⟨e19, ⟨xs, by walk_at "tr", by walk_at "tr"⟩, ⟨_, by walk_at "tr", (by walk_at "tr" : Al (MRow K H19) _ _)⟩, va⟩ ⟨en_wf _ _ (by omega) (by omega) _ hcc, en_sm _ _, en_ss _, by rw [List.length_take]; have : enS.length = 16 := rfl; omega⟩ huH haH hvH
          (((by walk_at "kp" : Keep [u, b, p] H H19).cut huH).cut hbH) (by walk_at "tr")
end
def bList (ss : List SR) (ms : List MR) : List Int := 0 :: ss.map (·.v) ++ ms.filterMap fun m => m.c.map fun c => c * m.v + m.r
/-- the bounded maximum -/
def bnd (ss : List SR) (ms : List MR) : Int := (bList ss ms).foldl max 0
theorem foldl_max_ge : ∀ (l : List Int) (a : Int), a ≤ l.foldl max a ∧ ∀ y ∈ l, y ≤ l.foldl max a
  | [], a => ⟨Int.le_refl a, by simp⟩
  | x :: l, a => by
    obtain ⟨h1, h2⟩ := foldl_max_ge l (max a x)
    refine ⟨Int.le_trans (Int.le_max_left a x) h1, fun y hy => ?_⟩
    rcases List.mem_cons.mp hy with rfl | h
    · exact Int.le_trans (Int.le_max_right a y) h1
    · exact h2 y h
theorem foldl_max_mem : ∀ (l : List Int) (a : Int), l.foldl max a = a ∨ l.foldl max a ∈ l
  | [], a => .inl rfl
  | x :: l, a => by
    rcases foldl_max_mem l (max a x) with h | h
    · rcases Int.le_total a x with hx | hx
      · right
        show l.foldl max (max a x) ∈ x :: l
        rw [h, Int.max_eq_right hx]
        simp
      · left
        show l.foldl max (max a x) = a
        rw [h, Int.max_eq_left hx]
    · right
      exact List.mem_cons_of_mem _ h
theorem bnd_eq {ss : List SR} {ms : List MR} {m : Int} (h : m ∈ bList ss ms) (h2 : ∀ y ∈ bList ss ms, y ≤ m) : m = bnd ss ms := by
  obtain ⟨g1, g2⟩ := foldl_max_ge (bList ss ms) 0
  have e1 : m ≤ bnd ss ms := g2 m h
  have e2 : bnd ss ms ≤ m := by
    rcases foldl_max_mem (bList ss ms) 0 with h | h
    · unfold bnd
      rw [h]
      exact h2 0 (by simp [bList])
    · exact h2 _ h
  omega
theorem bnd_nn (ss : List SR) (ms : List MR) : 0 ≤ bnd ss ms := (foldl_max_ge (bList ss ms) 0).1
theorem bnd_le {ss : List SR} {ms : List MR} (wf : Wf ss ms) : bnd ss ms ≤ 100000 := by
  rcases foldl_max_mem (bList ss ms) 0 with h | h
  · unfold bnd; omega
  · have h : bnd ss ms ∈ bList ss ms := h
    rcases List.mem_cons.mp h with h | h
    · omega
    · rcases List.mem_append.mp h with h | h
      · obtain ⟨s, hs, e⟩ := List.mem_map.mp h
        have := (wf.so s hs).2.2
        omega
      · obtain ⟨m, hm, e⟩ := List.mem_filterMap.mp h
        cases hc : m.c with
        | none => rw [hc] at e; cases e
        | some c =>
          rw [hc] at e
          injection e with e
          have e : c * m.v + m.r = bnd ss ms := e
          have := ((wf.mo m hm).2.2.2.1 c hc).2.2
          omega
def spBounded (K : PySem.W.Frag) : Sp := fun vs H Q _ => ∃ (d a b : Addr) (ss : List SR) (ms : List MR), vs = [.ref d] ∧ RowsAt K H d a b ss ms ∧ Wf ss ms ∧ ∀ H', Keep [] H H' → Q (.int (bnd ss ms)) H'
section
variable {P : Program} {w : World} {K : PySem.W.Frag} {mg : Str → Option Value} {base : Heap}
theorem c_l_rows (T : Txt K mg) : Cal P w K mg base CX0 "_law_rows" 7 ["_law_pool_here"] (spRows K WfS) := by
  refine T.d_l_rows.ok sc_l_rows (fun vs H Q E h => ?_) (fun f cdv A outer s H vs Q E hr h => ?_)
  · obtain ⟨t, p, c, rfl, _⟩ := h
    rfl
  · obtain ⟨t, p, c, rfl, hP, k⟩ := h
    refine ⟨_, (pss_cons (ps_set (i := 1) sc_l_rows.nd rfl (Or.inl rfl) (pe_cal (c_l_take T) hr (by omega) rfl pass0 (pa_cons (pv 0) (pa_cons pe_int pa_nil))))
      (pss_cons (ps_if (pt_cmpR (o_lt) (pv 1) pe_int (nomark _)) (pss_one (ps_ret (pe_cal (c_l_drawn T) hr (by omega) rfl pass0 (pa_cons (pv 0) pa_nil)))) pss_nil)
      (pss_cons (ps_if (pt_cmpR (o_lt) (pv 1) pe_int (nomark _)) (pss_one (ps_ret (pe_cal (c_l_nearly T) hr (by omega) rfl pass0 (pa_cons (pv 0) pa_nil)))) pss_nil)
      (pss_one (ps_ret (pe_ifExp (pt_cmpR (k_eq K rfl hr) (pv 1) pe_int (nomark _)) (pe_cal (c_l_regular T) hr (by omega) rfl pass0 (pa_cons (pv 0) pa_nil)) (pe_cal (c_l_english T) hr (by omega) rfl pass0 (pa_cons (pv 0) pa_nil)))))))), ?_⟩
    refine i_st (σ' := [some _, none]) rfl ?_
    walk_at "go"
    rename_i d1 H1 d10 d11 k1 P1
    have fin : ∀ (C : List SR → List MR → Prop), (∀ ss ms, C ss ms → WfS ss ms) → spRows K C ([.ref p] ++ []) H1 Q E0 := fun C hC =>
      spRows.use P1 fun ss ms d a b H2 R2 wf hd ha hb k2 P2 => k ss ms d a b H2 R2 (hC _ _ wf) (k1.dom _ hd) (k1.dom _ ha) (k1.dom _ hb) (k1.trans k2) P2
    refine i_ite (fun hz => ?_) fun hz => ?_
    · walk_at "go"
      exact fin _ fun _ _ h => h
    · walk_at "go"
      refine i_ite (fun hz => ?_) fun hz => ?_
      · walk_at "go"
        exact fin _ fun _ _ h => h
      · walk_at "go"
        refine i_ite (fun hz => ?_) fun hz => ?_
        · walk_at "go"
          exact fin _ fun _ _ h => ⟨h.1, (h.2.bnd h.1).1, (fun s hs => by have := (h.2.bnd h.1).2 s hs; omega), by have := h.2.sl; omega⟩
        · walk_at "go"
          exact fin _ fun _ _ h => h
theorem c_l_bounded (T : Txt K mg) : Cal P w K mg base CX0 "_law_bounded" 1 ["_law_rows_here"] (spBounded K) := by
  refine T.d_l_bounded.ok sc_l_bounded (fun vs H Q E h => ?_) (fun f cdv A outer s H vs Q E hr h => ?_)
  · obtain ⟨d, a, b, ss, ms, rfl, _⟩ := h
    rfl
  · obtain ⟨d, a, b, ss, ms, rfl, R, wf, k⟩ := h
    refine ⟨_, (pss_cons (ps_set (i := 1) sc_l_bounded.nd rfl (Or.inl rfl) (pe_op (k_add K rfl) (pe_lst (pa_cons pe_int pa_nil)) (pe_lc (own := [("_law_word_here", 2), ("_law_value", 3)]) (g := (gUn K 2 (gCons (gName 2) (gCons (gName 3) gNil)))) (tt := tYes) rfl sc_l_bounded.nd (k_sq K rfl (pe_ix (k_ix K rfl hr) (pv 0) pe_str (fun _ _ => rfl))) (blkOk_by (N := ["_law_rows_here", "_law_found", "_law_word_here", "_law_value", "_law_most", "_law_is_unsaid", "_law_last"]) (sc := defScope s_l_bounded) (by decide +kernel)) (fun _ _ _ _ _ => (k_un (n := 2) K rfl rfl (pgs_cons (pg_name (i := 2) sc_l_bounded.nd rfl (Or.inl rfl)) (pgs_cons (pg_name (i := 3) sc_l_bounded.nd rfl (Or.inl rfl)) pgs_nil)))) (fun _ _ _ _ _ => pts_nil) (fun _ _ _ _ _ => (pv 3)))))
      (pss_cons (ps_for PassesOwn.never rfl (k_sq K rfl (pe_ix (k_ix K rfl hr) (pv 0) pe_str (fun _ _ => rfl))) (k_un (n := 5) K rfl rfl (pgs_cons (pg_name (i := 2) sc_l_bounded.nd rfl (Or.inl rfl)) (pgs_cons (pg_name (i := 3) sc_l_bounded.nd rfl (Or.inl rfl)) (pgs_cons (pg_name (i := 4) sc_l_bounded.nd rfl (Or.inl rfl)) (pgs_cons (pg_name (i := 5) sc_l_bounded.nd rfl (Or.inl rfl)) (pgs_cons (pg_name (i := 6) sc_l_bounded.nd rfl (Or.inl rfl)) pgs_nil)))))) (pss_one (ps_if (pt_cmpR o_notN (pv 4) pe_non (nomark _)) (pss_one (ps_expr (k_bm K rfl PySem.F.plainAttrs_list PySem.F.slot_list_append PySem.F.type_list_append mt_append (pv 1) (pa_cons (pe_op (k_add K rfl) (pe_op (o_mul) (pv 4) (pv 3)) (pv 6)) pa_nil)))) pss_nil)))
      (pss_one (ps_ret (pe_callB (k_max K rfl rfl) rfl T.b_max (by decide +kernel) (pa_cons (pv 1) pa_nil)))))), ?_⟩
    refine i_st (σ' := [some _, none, none, none, none, none, none]) rfl ?_
    have dict := R.dict
    obtain ⟨xs, e1, r1⟩ := R.sl
    obtain ⟨ys, e2, r2⟩ := R.ml
    walk_at "go"
    refine i_new (sz (by simp)) fun l1 H1 hl1 k1 e1' => ?_
    walk_at "go"
    refine i_lcW (walk_list (xs := xs)) (fun D j acc H' => Keep [] H1 H' ∧ acc = (ss.take j).map fun s => .int s.v) (by walk_at "st") ?_ ?_ ?_ ?_
    · exact fun D H' _ kp _ => ⟨kp, by simp⟩
    · exact fun D j acc H' _ _ _ f => SqL.of (f.1.at (by walk_at "tr") (by simp))
    · rintro D j x acc H10 H11 hj hD eD lD ⟨kD, rfl⟩ ⟨rfl, hx⟩
      obtain ⟨s, hs, ⟨r, rfl, hr'⟩⟩ := r1.get hx
      have hr2 : SqT K H11 r _ := kD.sqT (k1.sqT hr')
      walk_at "go"
      refine ⟨rfl, ?_⟩
      walk_at "go"
      have hj2 := (List.getElem?_eq_some_iff.mp hs).1
      have := wf.sl
      exact i_lcY eD lD (by omega) fun H12 k12 e12 => ⟨(kD.wid0.trans k12).cut hD, by rw [take_snoc hs, List.map_append]; rfl⟩
    · rintro D acc H2 hD eD lD ⟨k2, rfl⟩
      rw [r1.len, List.take_length] at eD
      have hsl := wf.sl
      have hml := wf.ml
      refine i_catL (k2.at e1' (by simp)) eD (sz (by simp; omega)) fun l3 H3 hl3 k3 e3 => ?_
      have hb3 : b ≠ l3 := ne_of_none (k2.at (k1.at e2 (by simp)) (by simp)) hl3
      walk_at "go"
      refine i_forW (walk_list (xs := ys)) (fun i σ H' => ∃ o2 o3 o4 o5 o6, σ = [some (.ref d), some (.ref l3), o2, o3, o4, o5, o6] ∧ H' l3 = some (.lst ((0 :: ss.map (·.v) ++ (ms.take i).filterMap fun m => m.c.map fun c => c * m.v + m.r).map V.int)) ∧ Keep [l3] H3 H') ?_ ?_ ?_ ?_
      · refine ⟨_, _, _, _, _, rfl, ?_, Keep.rfl'⟩
        rw [e3]
        simp
      · rintro i σ H' hi ⟨o2, o3, o4, o5, o6, rfl, e4, k4⟩
        have e2' : H3 b = some (.lst ys) := by walk_at "tr"
        exact SqL.of (k4.at e2' (by walk_at "ne"))
      · rintro i x σ H4 H5 hi ⟨o2, o3, o4, o5, o6, rfl, e4, k4⟩ ⟨rfl, hx⟩
        obtain ⟨m, hm, ⟨r, rfl, hr'⟩⟩ := r2.get hx
        have hr2 : SqT K H5 r _ := k4.sqT (by walk_at "tr")
        have hmo := wf.mo m (List.mem_of_getElem? hm)
        walk_at "go"
        cases hc : m.c with
        | none =>
          walk_at "go"
          refine ⟨_, _, _, _, _, rfl, ?_, k4⟩
          rw [e4, take_snoc hm, List.filterMap_append]
          simp [hc]
        | some c0 =>
          obtain ⟨_, hv1, hv2, hcc, _⟩ := hmo
          have := hcc c0 hc
          walk_at "go"
          refine i_app e4 (sz' ?_) fun H6 k6 e6 => ⟨_, _, _, _, _, rfl, ?_, by walk_at "kp"⟩
          · have := List.length_filterMap_le (fun m : MR => m.c.map fun c => c * m.v + m.r) (ms.take i)
            have h2 := List.length_take_le i ms
            have h3 := r2.len
            simp only [List.length_map, List.length_append, List.length_cons]
            omega
          · rw [e6, take_snoc hm, List.filterMap_append]
            simp [hc]
      · rintro σ H4 ⟨o2, o3, o4, o5, o6, rfl, e4, k4⟩
        rw [r2.len, List.take_length] at e4
        walk_at "go"
        refine .inr ⟨l3, bList ss ms, rfl, SqL.of e4, by simp [bList], fun m h1 h2 => ?_⟩
        rw [bnd_eq h1 h2]
        exact k _ ((by walk_at "kp" : Keep [l3] H H4).cut (k1.dom _ (k2.dom _ hl3)))
theorem reg_bnd {ss : List SR} {ms : List MR} (h : IsReg ss ms) (wf : Wf ss ms) : bnd ss ms < 3000 := by
  rcases foldl_max_mem (bList ss ms) 0 with g | g
  · unfold bnd; omega
  · have g : bnd ss ms ∈ bList ss ms := g
    rcases List.mem_cons.mp g with g | g
    · omega
    · rcases List.mem_append.mp g with g | g
      · obtain ⟨s, hs, e⟩ := List.mem_map.mp g
        have := (h.bnd wf).2 s hs
        omega
      · obtain ⟨m, hm, e⟩ := List.mem_filterMap.mp g
        cases hc : m.c with
        | none => rw [hc] at e; cases e
        | some c =>
          rw [hc] at e
          injection e with e
          have e : c * m.v + m.r = bnd ss ms := e
          have h1 := h.bd.2.2 m hm
          have h2 := h1.2 c hc
          have h3 := (wf.mo m hm).2.2.2.2.2
          have h4 := (wf.mo m hm).2.1
          have h5 : c * m.v ≤ 5 * m.v := Int.mul_le_mul_of_nonneg_right h2 (by omega)
          omega
theorem spBounded.use {K : PySem.W.Frag} {d a b : Addr} {ss : List SR} {ms : List MR} {H : Hp} {Q : VK} {E : XK} (R : RowsAt K H d a b ss ms) (wf : Wf ss ms) (k : ∀ H', Keep [] H H' → Q (.int (bnd ss ms)) H') : spBounded K ([.ref d] ++ []) H Q E := ⟨d, a, b, ss, ms, rfl, R, wf, k⟩
theorem c_l_small (T : Txt K mg) : Cal P w K mg base CX0 "_law_small" 8 ["_law_pool_here"] (spRows K fun ss ms => WfS ss ms ∧ bnd ss ms < 3000) := by
  refine T.d_l_small.ok sc_l_small (fun vs H Q E h => ?_) (fun f cdv A outer s H vs Q E hr h => ?_)
  · obtain ⟨t, p, c, rfl, _⟩ := h
    rfl
  · obtain ⟨t, p, c, rfl, hP, k⟩ := h
    refine ⟨_, (pss_cons (ps_set (i := 1) sc_l_small.nd rfl (Or.inl rfl) (pe_cal (c_l_rows T) hr (by omega) rfl pass0 (pa_cons (pv 0) pa_nil)))
      (pss_one (ps_ret (pe_ifExp (pt_cmpR (o_lt) (pe_cal (c_l_bounded T) hr (by omega) rfl pass0 (pa_cons (pv 1) pa_nil)) pe_int (nomark _)) (pv 1) (pe_cal (c_l_regular T) hr (by omega) rfl pass0 (pa_cons (pv 0) pa_nil)))))), ?_⟩
    refine i_st (σ' := [some _, none]) rfl ?_
    walk_at "go"
    refine spRows.use hP fun ss ms d a b H2 R2 wf hd ha hb k2 P2 => ?_
    walk_at "go"
    refine spBounded.use R2 wf.1 fun H3 k3 => ?_
    have P3 : PoolAt t H3 p c := by walk_at "tr"
    walk_at "go"
    refine i_ite (fun hz => ?_) fun hz => ?_
    · walk_at "go"
      exact k ss ms d a b H3 (R2.keep k3 (by simp) (by simp) (by simp)) ⟨wf, hz⟩ hd ha hb (by walk_at "kp") P3
    · walk_at "go"
      have k23 : Keep [p] H H3 := by walk_at "kp"
      exact spRows.use P3 fun ss ms d a b H4 R4 wf hd ha hb k4 P4 => k ss ms d a b H4 R4 ⟨⟨wf.1, (wf.2.bnd wf.1).1, (fun s hs => by have := (wf.2.bnd wf.1).2 s hs; omega), by have := wf.2.sl; omega⟩, reg_bnd wf.2 wf.1⟩ (k23.dom _ hd) (k23.dom _ ha) (k23.dom _ hb) (k23.trans k4) P4
/-! the endless row; the last number looked at -/
def endl (ms : List MR) : Option MR := ms.find? fun m => m.c.isNone
theorem endl_hit {m : MR} {l : List MR} (h : m.c.isNone = true) : endl (m :: l) = some m := by simp [endl, List.find?_cons, h]
theorem endl_skip {m : MR} {l : List MR} (h : m.c.isNone = false) : endl (m :: l) = endl l := by simp [endl, List.find?_cons, h]
def spEndless (K : PySem.W.Frag) : Sp := fun vs H Q _ => ∃ (d a b : Addr) (ss : List SR) (ms : List MR), vs = [.ref d] ∧ RowsAt K H d a b ss ms ∧ Wf ss ms ∧
  match endl ms with
  | none => Q .non H
  | some m => ∀ r, SqT K H r [.str m.w, .int m.v, vO m.c, .bl m.u, .int m.r] → Q (.ref r) H
theorem c_l_endless (T : Txt K mg) : Cal P w K mg base CX0 "_law_endless" 1 ["_law_rows_here"] (spEndless K) := by
  refine T.d_l_endless.ok sc_l_endless (fun vs H Q E h => ?_) (fun f cdv A outer s H vs Q E hr h => ?_)
  · obtain ⟨d, a, b, ss, ms, rfl, _⟩ := h
    rfl
  · obtain ⟨d, a, b, ss, ms, rfl, R, wf, k⟩ := h
    refine ⟨_, (pss_cons (ps_for PassesOwn.never rfl (k_sq K rfl (pe_ix (k_ix K rfl hr) (pv 0) pe_str (fun _ _ => rfl))) (pg_name (i := 1) sc_l_endless.nd rfl (Or.inl rfl)) (pss_one (ps_if (pt_cmpR o_isN (pe_ix (k_ix K rfl hr) (pv 1) pe_int (fun _ _ => rfl)) pe_non (nomark _)) (pss_one (ps_ret (pv 1))) pss_nil)))
      (pss_one (ps_ret pe_non))), ?_⟩
    refine i_st (σ' := [some _, none]) rfl ?_
    have dict := R.dict
    obtain ⟨xs, e1, r1⟩ := R.sl
    obtain ⟨ys, e2, r2⟩ := R.ml
    walk_at "go"
    refine i_forW (walk_list (xs := ys)) (fun i σ H' => ∃ o, σ = [some (.ref d), o] ∧ H' = H ∧ endl ms = endl (ms.drop i)) ?_ ?_ ?_ ?_
    · exact ⟨_, rfl, rfl, rfl⟩
    · rintro i σ H' hi ⟨o, rfl, rfl, _⟩
      exact SqL.of e2
    · rintro i x σ H4 H5 hi ⟨o, rfl, rfl, he⟩ ⟨rfl, hx⟩
      obtain ⟨m, hm, ⟨r, rfl, hr'⟩⟩ := r2.get hx
      have hdr : ms.drop i = m :: ms.drop (i + 1) := by
        have hl := (List.getElem?_eq_some_iff.mp hm)
        obtain ⟨hl, e⟩ := hl
        rw [List.drop_eq_getElem_cons hl, e]
      walk_at "go"
      refine i_isN ?_
      rw [vO_non]
      walk_at "go"
      refine i_iteB (fun hc => ?_) fun hc => ?_
      · walk_at "go"
        rw [hdr, endl_hit hc] at he
        rw [he] at k
        exact k r hr'
      · walk_at "go"
        refine ⟨_, rfl, rfl, ?_⟩
        rw [he, hdr, endl_skip hc]
    · rintro σ H4 ⟨o, rfl, rfl, he⟩
      rw [r2.len, List.drop_length] at he
      walk_at "go"
      rw [he] at k
      exact k
def edgeN (ss : List SR) (ms : List MR) : Int := match endl ms with
  | none => bnd ss ms + 1
  | some m => max (bnd ss ms) m.v + m.v
def spEdge (K : PySem.W.Frag) : Sp := fun vs H Q _ => ∃ (d a b : Addr) (ss : List SR) (ms : List MR), vs = [.ref d] ∧ RowsAt K H d a b ss ms ∧ Wf ss ms ∧ ∀ H', Keep [] H H' → Q (.int (edgeN ss ms)) H'
theorem c_l_edge (T : Txt K mg) : Cal P w K mg base CX0 "_law_edge" 2 ["_law_rows_here"] (spEdge K) := by
  refine T.d_l_edge.ok sc_l_edge (fun vs H Q E h => ?_) (fun f cdv A outer s H vs Q E hr h => ?_)
  · obtain ⟨d, a, b, ss, ms, rfl, _⟩ := h
    rfl
  · obtain ⟨d, a, b, ss, ms, rfl, R, wf, k⟩ := h
    refine ⟨_, (pss_cons (ps_set (i := 1) sc_l_edge.nd rfl (Or.inl rfl) (pe_cal (c_l_endless T) hr (by omega) rfl pass0 (pa_cons (pv 0) pa_nil)))
      (pss_cons (ps_if (pt_cmpR o_isN (pv 1) pe_non (nomark _)) (pss_one (ps_ret (pe_op (k_add K rfl) (pe_cal (c_l_bounded T) hr (by omega) rfl pass0 (pa_cons (pv 0) pa_nil)) pe_int))) pss_nil)
      (pss_one (ps_ret (pe_op (k_add K rfl) (pe_callB (k_max K rfl rfl) rfl T.b_max (by decide +kernel) (pa_cons (pe_cal (c_l_bounded T) hr (by omega) rfl pass0 (pa_cons (pv 0) pa_nil)) (pa_cons (pe_ix (k_ix K rfl hr) (pv 1) pe_int (fun _ _ => rfl)) pa_nil))) (pe_ix (k_ix K rfl hr) (pv 1) pe_int (fun _ _ => rfl))))))), ?_⟩
    refine i_st (σ' := [some _, none]) rfl ?_
    walk_at "go"
    refine ⟨d, a, b, ss, ms, rfl, R, wf, ?_⟩
    cases he : endl ms with
    | none =>
      dsimp only
      walk_at "go"
      refine spBounded.use R wf fun H3 k3 => ?_
      walk_at "go"
      have := k H3 k3
      rw [edgeN, he] at this
      exact this
    | some m =>
      intro r hr'
      walk_at "go"
      refine spBounded.use R wf fun H3 k3 => ?_
      walk_at "go"
      have := k H3 k3
      rw [edgeN, he] at this
      exact this
end
/-! ### rows as lists or tuples -/
def sV (s : SR) : List V := [.str s.w, .int s.v]
def mV (m : MR) : List V := [.str m.w, .int m.v, vO m.c, .bl m.u, .int m.r]
def TRow (K : PySem.W.Frag) (H : Hp) (x : V) (d : List V) : Prop := ∃ r, x = .ref r ∧ SqT K H r d
/-- a list or a tuple of these items; a list stands at none of av -/
def Cont (K : PySem.W.Frag) (av : List Addr) (H : Hp) (x : V) (d : List V) : Prop := ∃ a, x = .ref a ∧ SqB K av H a d
def Shp (K : PySem.W.Frag) (av : List Addr) (H : Hp) (x : V) (ds : List (List V)) : Prop := ∃ a xs, x = .ref a ∧ SqB K av H a xs ∧ Al (Cont K av H) xs ds
theorem Cont.keep {K : PySem.W.Frag} {av m : List Addr} {H H' : Hp} {x : V} {d : List V} (k : Keep m H H') (hm : ∀ b ∈ m, b ∈ av) (h : Cont K av H x d) : Cont K av H' x d := by
  obtain ⟨a, e, h | ⟨h, n⟩⟩ := h
  · exact ⟨a, e, .inl (k.sqT h)⟩
  · exact ⟨a, e, .inr ⟨k.at h fun z => n (hm a z), n⟩⟩
theorem Conts.keep {K : PySem.W.Frag} {av m : List Addr} {H H' : Hp} {xs : List V} {ds : List (List V)} (k : Keep m H H') (hm : ∀ b ∈ m, b ∈ av) (h : Al (Cont K av H) xs ds) : Al (Cont K av H') xs ds := h.imp fun _ _ => Cont.keep k hm
theorem Cont.wk {K : PySem.W.Frag} {av av' : List Addr} {H : Hp} {x : V} {d : List V} (hm : ∀ b ∈ av', b ∈ av) (h : Cont K av H x d) : Cont K av' H x d := by
  obtain ⟨a, e, h | ⟨h, n⟩⟩ := h
  · exact ⟨a, e, .inl h⟩
  · exact ⟨a, e, .inr ⟨h, fun z => n (hm a z)⟩⟩
theorem Shp.keep {K : PySem.W.Frag} {av m : List Addr} {H H' : Hp} {x : V} {ds : List (List V)} (k : Keep m H H') (hm : ∀ b ∈ m, b ∈ av) (h : Shp K av H x ds) : Shp K av H' x ds := by
  obtain ⟨a, xs, e, h, r⟩ := h
  refine ⟨a, xs, e, ?_, r.imp fun _ _ => Cont.keep k hm⟩
  rcases h with h | ⟨h, n⟩
  · exact .inl (k.sqT h)
  · exact .inr ⟨k.at h fun z => n (hm a z), n⟩
theorem SRows.T {K : PySem.W.Frag} {H : Hp} {xs : List V} {ss : List SR} (h : Al (SRow K H) xs ss) : Al (TRow K H) xs (ss.map sV) := by
  induction h with
  | nil => exact .nil
  | cons r _ ih => exact .cons r ih
theorem MRows.T {K : PySem.W.Frag} {H : Hp} {xs : List V} {ss : List MR} (h : Al (MRow K H) xs ss) : Al (TRow K H) xs (ss.map mV) := by
  induction h with
  | nil => exact .nil
  | cons r _ ih => exact .cons r ih
def spShaped (K : PySem.W.Frag) : Sp := fun vs H Q _ => ∃ (t : Int) (p c a : Addr) (xs : List V) (ds : List (List V)), vs = [.ref p, .ref a] ∧ PoolAt t H p c ∧ a ≠ p ∧ H a = some (.lst xs) ∧ Al (TRow K H) xs ds ∧ ds.length ≤ 1000 ∧ (∀ d ∈ ds, d.length ≤ 1000) ∧
  ∀ x H', Shp K [p] H' x ds → Keep [p] H H' → PoolAt t H' p c → Q x H'
section
variable {P : Program} {w : World} {K : PySem.W.Frag} {mg : Str → Option Value} {base : Heap}
theorem c_l_shaped (T : Txt K mg) : Cal P w K mg base CX0 "_law_shaped" 4 ["_law_pool_here", "_law_rows_here"] (spShaped K) := by
  refine T.d_l_shaped.ok sc_l_shaped (fun vs H Q E h => ?_) (fun f cdv A outer s H vs Q E hr h => ?_)
  · obtain ⟨t, p, c, a, xs, ds, rfl, _⟩ := h
    rfl
  · obtain ⟨t, p, c, a, xs, ds, rfl, hP, nap, ea, ra, lds, lds2, k⟩ := h
    refine ⟨_, (pss_cons (ps_setLc (i := 2) (own := [("_law_row", 3)]) (g := (gName 3)) (tt := tYes) rfl sc_l_shaped.nd rfl rfl (sw_true rfl rfl rfl (by decide +kernel)) (k_sq K rfl (pv 1)) (blkOk_by (N := ["_law_pool_here", "_law_rows_here", "_law_found", "_law_row"]) (sc := defScope s_l_shaped) (by decide +kernel)) (fun _ _ _ _ _ => (pg_name (i := 3) sc_l_shaped.nd rfl (Or.inl rfl))) (fun _ _ _ _ _ => pts_nil) (fun _ _ _ _ _ => (pe_ix (k_ix K rfl hr) (pe_tup (pa_cons (pe_callTy (k_lst K rfl) rfl T.b_list (by decide +kernel) (pa_cons (pv 3) pa_nil)) (pa_cons (pv 3) pa_nil))) (pe_cal (c_l_take T) hr (by omega) rfl pass0 (pa_cons (pv 0) (pa_cons pe_int pa_nil))) (fun _ _ => rfl))))
      (pss_one (ps_ret (pe_ix (k_ix K rfl hr) (pe_tup (pa_cons (pv 2) (pa_cons (pe_callTy (k_tup K rfl) rfl T.b_tuple (by decide +kernel) (pa_cons (pv 2) pa_nil)) pa_nil))) (pe_cal (c_l_take T) hr (by omega) rfl pass0 (pa_cons (pv 0) (pa_cons pe_int pa_nil))) (fun _ _ => rfl))))), ?_⟩
    refine i_st (σ' := [some _, some _, none, none]) rfl ?_
    walk_at "go"
    refine i_lcW (walk_list (xs := xs)) (fun D j acc H' => Keep [p] H H' ∧ PoolAt t H' p c ∧ Al (Cont K [D, p] H') acc (ds.take j)) (by walk_at "st") ?_ ?_ ?_ ?_
    · exact fun D H' _ kp _ => ⟨kp.wid0, hP.keep kp (by simp) (by simp), by rw [List.take_zero]; exact .nil⟩
    · exact fun D j acc H' _ _ _ f => SqL.of (f.1.at ea (by walk_at "ne"))
    · rintro D j x acc H10 H1 hj hD eD lD ⟨k1, P1, r1⟩ ⟨rfl, hx⟩
      obtain ⟨d, hd, ⟨r, rfl, hr'⟩⟩ := ra.get hx
      have hr2 : SqT K H1 r d := k1.sqT hr'
      have l1 := ra.len
      have hdl := lds2 d (List.mem_of_getElem? hd)
      have nD1 := (hP.off hD).1
      have nD2 := (hP.off hD).2
      walk_at "go"
      refine ⟨rfl, ?_⟩
      walk_at "go"
      refine i_lstT hr2 fun l H2 hl k2 e2 => ?_
      have lp := (P1.off hl).1
      have nlD := ne_of_none eD hl
      have ra1 : Al (Cont K [D, p] H2) acc (ds.take j) := r1.imp fun _ _ => Cont.keep k2 (by simp)
      have e2' := e2
      walk_at "go"
      rename_i T3 H3 _ k3 _ q H4 q0 q1 k4 P4
      refine i_lcY (by walk_at "tr") lD (by omega) fun H6 k6 e6 => ⟨(by walk_at "kp" : Keep [D, p] H H6).cut hD, by walk_at "tr", ?_⟩
      rw [take_snoc hd]
      have k36 : Keep [D, p] H2 H6 := by walk_at "kp"
      refine Al.snoc (ra1.imp fun _ _ => Cont.keep k36 (fun _ h => h)) ?_
      split
      · exact ⟨l, rfl, .inr ⟨k36.at e2 (nm_cons (Ne.symm nlD) (nm_cons lp List.not_mem_nil)), nm_cons (Ne.symm nlD) (nm_cons lp List.not_mem_nil)⟩⟩
      · exact ⟨r, rfl, .inl (k36.sqT (k2.sqT hr2))⟩
    · rintro D acc H1 hD eD lD ⟨k1, P1, r1⟩
      walk_at "go"
      have nD1 := (hP.off hD).1
      have l1 := ra.len
      rw [l1, List.take_length] at r1
      refine i_tupL (SqL.of eD) fun u H2 hu k2 e2 => ?_
      walk_at "go"
      rename_i T3 H3 _ k3 _ q H4 q0 q1 k4 P4
      have e4 : SqT K H4 u acc := by walk_at "tr"
      have k24 : Keep [p] H1 H4 := by walk_at "kp"
      have r4 : Al (Cont K [p] H4) acc ds := r1.imp fun _ _ h => (h.wk (av' := [p]) (by simp)).keep k24 (fun _ h => h)
      refine k _ H4 ?_ (k1.trans k24) P4
      split
      · exact ⟨D, acc, rfl, .inr ⟨k24.at eD (nm_cons nD1 List.not_mem_nil), nm_cons nD1 List.not_mem_nil⟩, r4⟩
      · exact ⟨u, acc, rfl, .inl e4, r4⟩
end
local macro_rules | `(tactic| walk_at "tr1") => `(tactic| (refine' Conts.keep (by assumption) ?n ?h; (case h => walk_at "tr"); (case n => walk_at "sub")))
/-! ### the program's rows are checked -/
def spIsWord : Sp := fun vs H Q _ => ∃ x, vs = [.str x] ∧ Wok x ∧ ∀ H', Keep [] H H' → Q (.bl true) H'
theorem spIsWord.use {x : Str} {H : Hp} {Q : VK} {E : XK} (h : Wok x) (k : ∀ H', Keep [] H H' → Q (.bl true) H') : spIsWord ([.str x] ++ []) H Q E := ⟨x, rfl, h, k⟩
theorem inLetters {c : Nat} (h : 97 ≤ c ∧ c ≤ 122) : c ∈ (Str.ofString "abcdefghijklmnopqrstuvwxyz").cps.toList := by
  have z : ∀ c : Nat, c < 26 → 97 + c ∈ (Str.ofString "abcdefghijklmnopqrstuvwxyz").cps.toList := by decide +kernel
  have := z (c - 97) (by omega)
  rwa [show 97 + (c - 97) = c by omega] at this
section
variable {P : Program} {w : World} {K : PySem.W.Frag} {mg : Str → Option Value} {base : Heap}
theorem c_is_word (T : Txt K mg) : Cal P w K mg base CX0 "is_word" 1 ["text"] spIsWord := by
  refine T.d_is_word.ok sc_is_word (fun vs H Q E h => ?_) (fun f cdv A outer s H vs Q E hr h => ?_)
  · obtain ⟨x, rfl, _⟩ := h
    rfl
  · obtain ⟨x, rfl, ⟨w1, w2, w3, _⟩, k⟩ := h
    refine ⟨_, (pss_one (ps_ret (pe_and (pe_chain (o_le) (o_le) pe_int (pe_callB (k_len K rfl) rfl T.b_len (by decide +kernel) (pa_cons (pv 0) pa_nil)) (pe_gv rfl T.g_MOST_LETTERS)) (pe_one (pe_callB (k_all K rfl rfl) rfl T.b_all (by decide +kernel) (pa_cons (pe_lc (own := [("letter", 1)]) (g := (gName 1)) (tt := tYes) rfl sc_is_word.nd (pi_str (pv 0)) (blkOk_by (N := ["text", "letter"]) (sc := defScope s_is_word) (by decide +kernel)) (fun _ _ _ _ _ => (pg_name (i := 1) sc_is_word.nd rfl (Or.inl rfl))) (fun _ _ _ _ _ => pts_nil) (fun _ _ _ _ _ => (pe_cmpR (k_in K rfl hr) (pv 1) (pe_gv rfl T.g_LETTERS) (by rfl)))) pa_nil)))))), ?_⟩
    refine i_st (σ' := [some _, none]) rfl ?_
    walk_at "go"
    refine i_lenS (sz (by omega)) ?_
    walk_at "go"
    refine i_lcW (walk_str (z := x)) (fun D i acc H' => Keep [] H H' ∧ acc = List.replicate i (.bl true)) (by walk_at "st") ?_ ?_ ?_ ?_
    · exact fun D H' _ kp _ => ⟨kp, rfl⟩
    · exact fun D i acc H' _ _ _ f => trivial
    · rintro D i y acc H0 H1 hi hD e l ⟨kp, rfl⟩ ⟨rfl, c, hc, rfl⟩
      walk_at "go"
      refine ⟨rfl, ?_⟩
      walk_at "go"
      have hm : c ∈ x.cps.toList := by
        have := Array.mem_of_getElem? hc
        exact Array.mem_toList_iff.mpr this
      rw [show decide (c ∈ (Str.ofString "abcdefghijklmnopqrstuvwxyz").cps.toList) = true from decide_eq_true (inLetters (w3 c hm))]
      have hi' : i < x.length := hi
      exact i_lcY e l (by omega) fun H3 k3 e3 => ⟨(kp.wid0.trans k3).cut hD, by rw [List.replicate_succ']⟩
    · rintro D acc H1 hD e l ⟨kp, rfl⟩
      walk_at "go"
      refine ⟨D, List.replicate x.length true, rfl, SqL.of (by rw [e]; simp [Str.length]), ?_⟩
      rw [show (List.replicate x.length true).all id = true by simp]
      exact k _ kp
def spRow1 (K : PySem.W.Frag) : Sp := fun vs H Q _ => ∃ a av s, vs = [.ref a] ∧ SqB K av H a (sV s) ∧ SOk s ∧ ∀ H', Keep [] H H' → Q .non H'
theorem c_simple_fault (T : Txt K mg) : Cal P w K mg base CX0 "simple_fault" 2 ["row"] (spRow1 K) := by
  refine T.d_simple_fault.ok sc_simple_fault (fun vs H Q E h => ?_) (fun f cdv A outer s H vs Q E hr h => ?_)
  · obtain ⟨a, av, s, rfl, _⟩ := h
    rfl
  · obtain ⟨a, av, s, rfl, ha, ⟨w1, w2, w3⟩, k⟩ := h
    refine ⟨_, (pss_cons (ps_if (pt_cmpR (k_ne K rfl hr) (pe_callB (k_len K rfl) rfl T.b_len (by decide +kernel) (pa_cons (pv 0) pa_nil)) pe_int (nomark _)) (pss_one (ps_ret pe_str)) pss_nil)
      (pss_cons (ps_if (pt_not (k_tr K rfl (pe_cal (c_is_word T) hr (by omega) rfl pass0 (pa_cons (pe_ix (k_ix K rfl hr) (pv 0) pe_int (fun _ _ => rfl)) pa_nil)))) (pss_one (ps_ret pe_str)) pss_nil)
      (pss_one (ps_ret (pe_ifExp (pt_chain (o_le) (o_le) pe_int (pe_ix (k_ix K rfl hr) (pv 0) pe_int (fun _ _ => rfl)) (pe_gv rfl T.g_MOST_VALUE)) pe_non pe_str))))), ?_⟩
    refine i_st (σ' := [some _]) rfl ?_
    unfold sV at ha
    walk_at "go"
    refine i_negB (by simp) ?_
    walk_at "go"
    refine spIsWord.use w1 fun H1 k1 => ?_
    walk_at "go"
    exact k _ k1
def spRow2 (K : PySem.W.Frag) : Sp := fun vs H Q _ => ∃ a av m, vs = [.ref a] ∧ SqB K av H a (mV m) ∧ MOk m ∧ ∀ H', Keep [] H H' → Q .non H'
theorem c_multiplier_fault (T : Txt K mg) : Cal P w K mg base CX0 "multiplier_fault" 2 ["row"] (spRow2 K) := by
  refine T.d_multiplier_fault.ok sc_multiplier_fault (fun vs H Q E h => ?_) (fun f cdv A outer s H vs Q E hr h => ?_)
  · obtain ⟨a, av, s, rfl, _⟩ := h
    rfl
  · obtain ⟨a, av, m, rfl, ha, ⟨w1, w2, w3, w4, w5, w6⟩, k⟩ := h
    refine ⟨_, (pss_cons (ps_if (pt_cmpR (k_ne K rfl hr) (pe_callB (k_len K rfl) rfl T.b_len (by decide +kernel) (pa_cons (pv 0) pa_nil)) pe_int (nomark _)) (pss_one (ps_ret pe_str)) pss_nil)
      (pss_cons (ps_asg (pv 0) (k_un (n := 5) K rfl rfl (pgs_cons (pg_name (i := 1) sc_multiplier_fault.nd rfl (Or.inl rfl)) (pgs_cons (pg_name (i := 2) sc_multiplier_fault.nd rfl (Or.inl rfl)) (pgs_cons (pg_name (i := 3) sc_multiplier_fault.nd rfl (Or.inl rfl)) (pgs_cons (pg_name (i := 4) sc_multiplier_fault.nd rfl (Or.inl rfl)) (pgs_cons (pg_name (i := 5) sc_multiplier_fault.nd rfl (Or.inl rfl)) pgs_nil)))))))
      (pss_cons (ps_if (pt_not (k_tr K rfl (pe_cal (c_is_word T) hr (by omega) rfl pass0 (pa_cons (pv 1) pa_nil)))) (pss_one (ps_ret pe_str)) pss_nil)
      (pss_cons (ps_if (pt_not (pt_chain (o_le) (o_le) pe_int (pv 2) (pe_gv rfl T.g_MOST_VALUE))) (pss_one (ps_ret pe_str)) pss_nil)
      (pss_cons (ps_if (PW.pt (pw_and (pt_cmpR o_notN (pv 3) pe_non (nomark _)) (pw_and1 (pt_not (pt_chain (o_le) (o_le) pe_int (pv 3) (pe_gv rfl T.g_MOST_VALUE)))))) (pss_one (ps_ret pe_str)) pss_nil)
      (pss_cons (ps_if (pt_not (pt_chain (o_le) (o_lt) pe_int (pv 5) (pv 2))) (pss_one (ps_ret pe_str)) pss_nil)
      (pss_cons (ps_if (PW.pt (pw_and (pt_cmpR o_notN (pv 3) pe_non (nomark _)) (pw_and1 (pt_cmpR (o_gt) (pe_op (k_add K rfl) (pe_op (o_mul) (pv 3) (pv 2)) (pv 5)) (pe_gv rfl T.g_MOST_VALUE) (nomark _))))) (pss_one (ps_ret pe_str)) pss_nil)
      (pss_one (ps_ret pe_non))))))))), ?_⟩
    refine i_st (σ' := [some _, none, none, none, none, none]) rfl ?_
    unfold mV at ha
    walk_at "go"
    refine i_negB (by simp) ?_
    walk_at "go"
    refine spIsWord.use w1 fun H1 k1 => ?_
    have w7 : m.r ≤ 100000 := by omega
    walk_at "go"
    cases hc : m.c with
    | none =>
      walk_at "go"
      exact k _ k1
    | some c =>
      obtain ⟨c1, c2, c3⟩ := w4 c hc
      walk_at "go"
      refine i_negB (by simp; omega) ?_
      walk_at "go"
      exact k _ k1
theorem spRow1.use {K : PySem.W.Frag} {a : Addr} {av : List Addr} {s : SR} {H : Hp} {Q : VK} {E : XK} (h : SqB K av H a (sV s)) (o : SOk s) (k : ∀ H', Keep [] H H' → Q .non H') : spRow1 K ([.ref a] ++ []) H Q E := ⟨a, av, s, rfl, h, o, k⟩
theorem spRow2.use {K : PySem.W.Frag} {a : Addr} {av : List Addr} {s : MR} {H : Hp} {Q : VK} {E : XK} (h : SqB K av H a (mV s)) (o : MOk s) (k : ∀ H', Keep [] H H' → Q .non H') : spRow2 K ([.ref a] ++ []) H Q E := ⟨a, av, s, rfl, h, o, k⟩
def RowsOk (part : Str) (ds : List (List V)) : Prop := (part = "simple" ∧ ∃ ss, ds = List.map sV ss ∧ ∀ s ∈ ss, SOk s) ∨ (part = "multipliers" ∧ ∃ ms, ds = List.map mV ms ∧ ∀ m ∈ ms, MOk m)
def spChk (K : PySem.W.Frag) : Sp := fun vs H Q _ => ∃ (part : Str) (a : Addr) (av : List Addr) (xs : List V) (ds : List (List V)) (n : Int), vs = [.str part, .ref a, .int n] ∧ SqB K av H a xs ∧ Al (Cont K av H) xs ds ∧ (xs.length : Int) ≤ n ∧
  RowsOk part ds ∧ ∀ H', Keep [] H H' → Q .non H'
theorem c_check_rows (T : Txt K mg) : Cal P w K mg base CX0 "check_rows" 3 ["part", "rows", "most"] (spChk K) := by
  refine T.d_check_rows.ok sc_check_rows (fun vs H Q E h => ?_) (fun f cdv A outer s H vs Q E hr h => ?_)
  · obtain ⟨part, a, av, xs, ds, n, rfl, _⟩ := h
    rfl
  · obtain ⟨part, a, av, xs, ds, n, rfl, ha, rx, hn, ok, k⟩ := h
    refine ⟨_, (pss_cons (ps_if (pt_cmpR (o_gt) (pe_callB (k_len K rfl) rfl T.b_len (by decide +kernel) (pa_cons (pv 1) pa_nil)) (pv 2) (nomark _)) (pss_one ps_never) pss_nil)
      (pss_one (ps_for PassesOwn.never rfl (k_en K rfl rfl T.b_enumerate (pa_cons (pv 1) pa_nil)) (k_un (n := 2) K rfl rfl (pgs_cons (pg_name (i := 3) sc_check_rows.nd rfl (Or.inl rfl)) (pgs_cons (pg_name (i := 4) sc_check_rows.nd rfl (Or.inl rfl)) pgs_nil))) (pss_cons (ps_set (i := 5) sc_check_rows.nd rfl (Or.inl rfl) (pe_ifExp (pt_cmpR (k_eq K rfl hr) (pv 0) pe_str (nomark _)) (pe_cal (c_simple_fault T) hr (by omega) rfl pass0 (pa_cons (pv 4) pa_nil)) (pe_cal (c_multiplier_fault T) hr (by omega) rfl pass0 (pa_cons (pv 4) pa_nil))))
      (pss_one (ps_if (pt_cmpR o_notN (pv 5) pe_non (nomark _)) (pss_one ps_never) pss_nil)))))), ?_⟩
    refine i_st (σ' := [some _, some _, some _, none, none, none]) rfl ?_
    walk_at "go"
    refine i_enB ha fun J G wk hG => ?_
    refine i_forW wk (fun i σ H' => ∃ o3 o4 o5, σ = [some (.str part), some (.ref a), some (.int n), o3, o4, o5] ∧ Keep [] H H') ?_ ?_ ?_ ?_
    · exact ⟨_, _, _, rfl, Keep.rfl'⟩
    · rintro i σ H' hi ⟨o3, o4, o5, rfl, k1⟩
      exact hG _ _ k1 (by simp)
    · rintro i x σ H1 H2 hi ⟨o3, o4, o5, rfl, k1⟩ y
      obtain ⟨T', x1, x2, rfl, hT, k2, e2, y1, y2⟩ := ypair y
      injection y1 with y1
      subst y1
      obtain ⟨d, hd, ⟨r, rfl, hr'⟩⟩ := rx.get y2
      have hr2 : SqB K av H2 r d := by walk_at "tr"
      walk_at "go"
      rcases ok with ⟨rfl, ss, rfl, ok⟩ | ⟨rfl, ms, rfl, ok⟩
      · rw [List.getElem?_map] at hd
        obtain ⟨s, hs, rfl⟩ := Option.map_eq_some_iff.mp hd
        rw [decide_eq_true rfl]
        walk_at "go"
        refine spRow1.use hr2 (ok s (List.mem_of_getElem? hs)) fun H3 k3 => ?_
        walk_at "go"
        exact ⟨_, _, _, rfl, by walk_at "kp"⟩
      · rw [List.getElem?_map] at hd
        obtain ⟨s, hs, rfl⟩ := Option.map_eq_some_iff.mp hd
        rw [show decide (("multipliers" : Str) = "simple") = false from decide_eq_false (by decide +kernel)]
        walk_at "go"
        refine spRow2.use hr2 (ok s (List.mem_of_getElem? hs)) fun H3 k3 => ?_
        walk_at "go"
        exact ⟨_, _, _, rfl, by walk_at "kp"⟩
    · rintro σ H1 ⟨o3, o4, o5, rfl, k1⟩
      exact k _ k1
end
theorem SqB.fresh {K : PySem.W.Frag} {av : List Addr} {H : Hp} {a D : Addr} {xs : List V} (hD : H D = none) (h : SqB K av H a xs) : SqB K (D :: av) H a xs := by
  rcases h with h | ⟨h, n⟩
  · exact .inl h
  · exact .inr ⟨h, nm_cons (ne_of_none h hD) n⟩
theorem Conts.fresh {K : PySem.W.Frag} {av : List Addr} {H : Hp} {D : Addr} {xs : List V} {ds : List (List V)} (hD : H D = none) (h : Al (Cont K av H) xs ds) : Al (Cont K (D :: av) H) xs ds :=
  h.imp fun _ _ ⟨a, e, s⟩ => ⟨a, e, SqB.fresh hD s⟩
def wD (ws : List Str) : List (Key × V) := ws.map fun w => (.inr w, .bl true)
theorem wD_none {ws : List Str} {w : Str} (h : w ∉ ws) : valV (wD ws) (.inr w) = none := by
  unfold valV
  rw [Option.map_eq_none_iff, List.find?_eq_none]
  intro kv hkv
  obtain ⟨x, hx, rfl⟩ := List.mem_map.mp hkv
  intro e
  have e : (Sum.inr x : Key) = Sum.inr w := of_decide_eq_true e
  exact h (Sum.inr.inj e ▸ hx)
theorem wD_put {ws : List Str} {w : Str} (h : w ∉ ws) : putK (wD ws) (.inr w) (.bl true) = wD (ws ++ [w]) := by
  unfold putK
  rw [if_neg]
  · unfold wD; rw [List.map_append]; rfl
  · intro e
    obtain ⟨kv, hkv, e⟩ := List.any_eq_true.mp e
    obtain ⟨x, hx, rfl⟩ := List.mem_map.mp hkv
    have e : (Sum.inr x : Key) = Sum.inr w := of_decide_eq_true e
    exact h (Sum.inr.inj e ▸ hx)
/-- the words of rows -/
def Heads (ds : List (List V)) (ws : List Str) : Prop := Al (fun d w => atI d 0 = some (.str w)) ds ws
def spWords (K : PySem.W.Frag) : Sp := fun vs H Q _ => ∃ (a b : Addr) (av : List Addr) (xs ys : List V) (ds es : List (List V)) (ws us : List Str), vs = [.ref a, .ref b] ∧ SqB K av H a xs ∧ Al (Cont K av H) xs ds ∧ SqB K av H b ys ∧ Al (Cont K av H) ys es ∧
  Heads ds ws ∧ Heads es us ∧ (ws ++ us).Nodup ∧ ws.length + us.length ≤ 1000 ∧ ∀ H', Keep [] H H' → Q .non H'
section
variable {P : Program} {w : World} {K : PySem.W.Frag} {mg : Str → Option Value} {base : Heap}
theorem c_check_words (T : Txt K mg) : Cal P w K mg base CX0 "check_words" 1 ["simple", "multipliers"] (spWords K) := by
  refine T.d_check_words.ok sc_check_words (fun vs H Q E h => ?_) (fun f cdv A outer s H vs Q E hr h => ?_)
  · obtain ⟨a, b, av, xs, ys, ds, es, ws, us, rfl, _⟩ := h
    rfl
  · obtain ⟨a, b, av, xs, ys, ds, es, ws, us, rfl, ha, ra, hb, rb, hw, hu, nd, hl, k⟩ := h
    refine ⟨_, (pss_cons (ps_set (i := 2) sc_check_words.nd rfl (Or.inl rfl) pe_dnewK)
      (pss_one (ps_for PassesOwn.never rfl (k_sq K rfl (pe_tup (pa_cons (pe_tup (pa_cons pe_str (pa_cons (pv 0) pa_nil))) (pa_cons (pe_tup (pa_cons pe_str (pa_cons (pv 1) pa_nil))) pa_nil)))) (k_un (n := 2) K rfl rfl (pgs_cons (pg_name (i := 3) sc_check_words.nd rfl (Or.inl rfl)) (pgs_cons (pg_name (i := 4) sc_check_words.nd rfl (Or.inl rfl)) pgs_nil))) (pss_one (ps_for PassesOwn.never rfl (k_en K rfl rfl T.b_enumerate (pa_cons (pv 4) pa_nil)) (k_un (n := 2) K rfl rfl (pgs_cons (pg_name (i := 5) sc_check_words.nd rfl (Or.inl rfl)) (pgs_cons (pg_name (i := 6) sc_check_words.nd rfl (Or.inl rfl)) pgs_nil))) (pss_cons (ps_if (pt_cmpR (k_in K rfl hr) (pe_ix (k_ix K rfl hr) (pv 6) pe_int (fun _ _ => rfl)) (pv 2) (by rfl)) (pss_one ps_never) pss_nil)
      (pss_one (ps_asg pe_bl (pg_sub (pv 2) (pe_ix (k_ix K rfl hr) (pv 6) pe_int (fun _ _ => rfl)) (o_set hr)))))))))), ?_⟩
    refine i_st (σ' := [some _, some _, none, none, none, none, none]) rfl ?_
    walk_at "go"
    refine i_dnewK fun D H1 hD k1 e1 => ?_
    walk_at "go"
    rename_i T1 H2 _ k2 e2 T2 H3 _ k3 e3 T3 H4 _ k4 e4
    have ha4 : SqB K (D :: av) H4 a xs := ((SqB.fresh hD ha).keep k1 (by simp)).keep ((k2.trans k3).trans k4) (by simp)
    have hb4 : SqB K (D :: av) H4 b ys := ((SqB.fresh hD hb).keep k1 (by simp)).keep ((k2.trans k3).trans k4) (by simp)
    have ra4 : Al (Cont K (D :: av) H4) xs ds := Conts.keep ((k2.trans k3).trans k4) (by simp) (Conts.keep k1 (by simp) (Conts.fresh hD ra))
    have rb4 : Al (Cont K (D :: av) H4) ys es := Conts.keep ((k2.trans k3).trans k4) (by simp) (Conts.keep k1 (by simp) (Conts.fresh hD rb))
    have d4 : H4 D = some (.dK []) := by walk_at "tr"
    have t4 : SqT K H4 T3 [.ref T1, .ref T2] := SqT.of e4
    have p1 : SqT K H4 T1 [.str "simple", .ref a] := by walk_at "tr"
    have p2 : SqT K H4 T2 [.str "multipliers", .ref b] := by walk_at "tr"
    clear e2 e3 e4
    walk_at "go"
    refine i_forW (walk_tup (xs := [.ref T1, .ref T2])) (fun i σ H' => ∃ o3 o4 o5 o6, σ = [some (.ref a), some (.ref b), some (.ref D), o3, o4, o5, o6] ∧ Keep [D] H4 H' ∧
      H' D = some (.dK (wD (if i = 0 then [] else if i = 1 then ws else ws ++ us)))) ?_ ?_ ?_ ?_
    · exact ⟨_, _, _, _, rfl, Keep.rfl', d4⟩
    · rintro i σ H' hi ⟨o3, o4, o5, o6, rfl, kk, _⟩
      exact kk.sqT t4
    · rintro i x σ H5 H6 hi ⟨o3, o4, o5, o6, rfl, k5, d5⟩ ⟨rfl, hx⟩
      have hi : i = 0 ∨ i = 1 := by simp at hi; omega
      obtain ⟨T', part, r, zs, ds', w0, wi, rfl, hT', hr', hz, hwi, hnd, hd5, hlen, hnx⟩ : ∃ T' part r zs ds' w0 wi, x = V.ref T' ∧ SqT K H4 T' [.str part, .ref r] ∧ SqB K (D :: av) H4 r zs ∧ Al (Cont K (D :: av) H4) zs ds' ∧ Heads ds' wi ∧ (w0 ++ wi).Nodup ∧
          H6 D = some (.dK (wD w0)) ∧ w0.length + wi.length ≤ 1000 ∧ w0 ++ wi = (if i + 1 = 0 then [] else if i + 1 = 1 then ws else ws ++ us) := by
        rcases hi with rfl | rfl
        · injection hx with hx
          subst hx
          exact ⟨T1, _, a, xs, ds, [], ws, rfl, p1, ha4, ra4, hw, (List.nodup_append.mp nd).1, d5, by simp; omega, rfl⟩
        · injection hx with hx
          subst hx
          exact ⟨T2, _, b, ys, es, ws, us, rfl, p2, hb4, rb4, hu, nd, d5, hl, rfl⟩
      have hT6 : SqT K H6 T' _ := k5.sqT hT'
      have hr6 : SqB K (D :: av) H6 r zs := hr'.keep k5 (by simp)
      have hz6 : Al (Cont K (D :: av) H6) zs ds' := Conts.keep k5 (by simp) hz
      walk_at "go"
      refine i_enB hr6 fun J G wk hG => ?_
      refine i_forW wk (fun i σ H' => ∃ o5 o6, σ = [some (.ref a), some (.ref b), some (.ref D), some (.str part), some (.ref r), o5, o6] ∧ Keep [D] H6 H' ∧ H' D = some (.dK (wD (w0 ++ wi.take i)))) ?_ ?_ ?_ ?_
      · exact ⟨_, _, rfl, Keep.rfl', by rw [List.take_zero, List.append_nil]; exact hd5⟩
      · rintro i σ H' hi ⟨o5, o6, rfl, kk, _⟩
        exact hG _ _ kk (by simp)
      · rintro j x σ H7 H8 hj ⟨o5, o6, rfl, k7, d7⟩ y
        obtain ⟨T9, x1, x2, rfl, hT, k8, e8, y1, y2⟩ := ypair y
        injection y1 with y1
        subst y1
        obtain ⟨d, hd, ⟨q, rfl, hq⟩⟩ := hz6.get y2
        obtain ⟨wd, hwd, hd0⟩ := hwi.get hd
        have hq2 : SqB K (D :: av) H8 q d := (hq.keep k7 (by simp)).keep k8 (by simp)
        have nw : wd ∉ w0 ++ wi.take j := by
          intro hm
          have hwi2 : wi = wi.take j ++ wd :: wi.drop (j + 1) := by
            obtain ⟨hl', e⟩ := List.getElem?_eq_some_iff.mp hwd
            have := List.drop_eq_getElem_cons hl'
            rw [e] at this
            rw [← this, List.take_append_drop]
          rw [hwi2, ← List.append_assoc] at hnd
          exact (List.nodup_append.mp hnd).2.2 wd hm wd (by simp) rfl
        have ljw : (w0 ++ wi.take j).length ≤ 1000 := by
          have := List.length_take_le j wi
          have := List.length_take_le' j wi
          rw [List.length_append]
          omega
        walk_at "go"
        refine i_ixB hq2 hd0 ?_
        walk_at "go"
        refine i_inK (k := .inr wd) (by walk_at "tr") rfl ?_
        rw [wD_none nw]
        walk_at "go"
        refine i_negB rfl ?_
        walk_at "go"
        refine i_ixB hq2 hd0 ?_
        refine i_setK (k := .inr wd) (by walk_at "tr") rfl (sz' ?_) fun H9 k9 e9 => ?_
        · unfold wD
          rw [List.length_map]
          omega
        · rw [wD_put nw] at e9
          refine ⟨_, _, rfl, by walk_at "kp", ?_⟩
          rw [e9, take_snoc hwd, List.append_assoc]
      · rintro σ H7 ⟨o5, o6, rfl, k7, d7⟩
        have hl7 : zs.length = wi.length := hz6.len.trans hwi.len
        rw [hl7, List.take_length] at d7
        exact ⟨_, _, _, _, rfl, k5.trans k7, by rw [← hnx]; exact d7⟩
    · rintro σ H5 ⟨o3, o4, o5, o6, rfl, k5, d5⟩
      exact k _ ((by walk_at "kp" : Keep [D] H H5).cut hD)
def spEndl (K : PySem.W.Frag) : Sp := fun vs H Q _ => ∃ (b : Addr) (av : List Addr) (ys : List V) (ms : List MR), vs = [.ref b] ∧ SqB K av H b ys ∧ Al (Cont K av H) ys (ms.map mV) ∧ (ms.filter fun m => m.c.isNone).length ≤ 1 ∧ ms.length ≤ 1000 ∧ ∀ H', Keep [] H H' → Q .non H'
theorem c_check_endless (T : Txt K mg) : Cal P w K mg base CX0 "check_endless" 1 ["multipliers"] (spEndl K) := by
  refine T.d_check_endless.ok sc_check_endless (fun vs H Q E h => ?_) (fun f cdv A outer s H vs Q E hr h => ?_)
  · obtain ⟨b, av, ys, ms, rfl, _⟩ := h
    rfl
  · obtain ⟨b, av, ys, ms, rfl, hb, rb, he, hl, k⟩ := h
    refine ⟨_, (pss_cons (ps_setLc (i := 1) (own := [("number", 2), ("row", 3)]) (g := (gUn K 2 (gCons (gName 2) (gCons (gName 3) gNil)))) rfl sc_check_endless.nd rfl rfl (sw_true rfl rfl rfl (by decide +kernel)) (k_en K rfl rfl T.b_enumerate (pa_cons (pv 0) pa_nil)) (blkOk_by (N := ["multipliers", "found", "number", "row"]) (sc := defScope s_check_endless) (by decide +kernel)) (fun _ _ _ _ _ => (k_un (n := 2) K rfl rfl (pgs_cons (pg_name (i := 2) sc_check_endless.nd rfl (Or.inl rfl)) (pgs_cons (pg_name (i := 3) sc_check_endless.nd rfl (Or.inl rfl)) pgs_nil)))) (fun _ _ _ _ _ => (pts_one (pt_cmpR o_isN (pe_ix (k_ix K rfl hr) (pv 3) pe_int (fun _ _ => rfl)) pe_non (nomark _)))) (fun _ _ _ _ _ => (pv 2)))
      (pss_one (ps_if (pt_cmpR (o_gt) (pe_callB (k_len K rfl) rfl T.b_len (by decide +kernel) (pa_cons (pv 1) pa_nil)) pe_int (nomark _)) (pss_one ps_never) pss_nil))), ?_⟩
    refine i_st (σ' := [some _, none, none, none]) rfl ?_
    have hly := rb.len
    rw [List.length_map] at hly
    walk_at "go"
    refine i_enB hb fun J G wk hG => ?_
    refine i_lcW wk (fun D i acc H' => Keep [] H H' ∧ acc.length = ((ms.take i).filter fun m => m.c.isNone).length) (by walk_at "st") ?_ ?_ ?_ ?_
    · exact fun D H' _ kp _ => ⟨kp, by simp⟩
    · exact fun D i acc H' _ _ _ f => hG _ _ f.1 (by simp)
    · rintro D j x acc H1 H2 hj hD eD lD ⟨k1, la⟩ y
      obtain ⟨T9, x1, x2, rfl, hT, k8, e8, y1, y2⟩ := ypair y
      injection y1 with y1
      subst y1
      obtain ⟨d, hd, ⟨q, rfl, hq⟩⟩ := rb.get y2
      have hq2 : SqB K av H2 q d := (hq.keep k1 (by simp)).keep k8 (by simp)
      rw [List.getElem?_map] at hd
      obtain ⟨m, hm, rfl⟩ := Option.map_eq_some_iff.mp hd
      unfold mV at hq2
      have eD2 : H2 D = some (.lst acc) := k8.at eD (by simp)
      walk_at "go"
      refine ⟨rfl, ?_⟩
      walk_at "go"
      refine i_isN ?_
      rw [vO_non]
      walk_at "go"
      refine i_iteB (fun hc => ?_) fun hc => ?_
      · walk_at "go"
        refine i_lcY eD2 lD (by omega) fun H3 k3 e3 => ⟨(by walk_at "kp" : Keep [D] H H3).cut hD, ?_⟩
        rw [take_snoc hm, List.filter_append, List.length_append, List.length_append, la]
        simp [hc]
      · refine i_lcN eD2 lD ⟨by walk_at "kp", ?_⟩
        rw [take_snoc hm, List.filter_append, List.length_append, la]
        simp [hc]
    · rintro D acc H1 hD eD lD ⟨k1, la⟩
      rw [hly, List.take_length] at la
      walk_at "go"
      exact k _ k1
end
/-! ### the system, made -/
def sD (ss : List SR) : List (Key × V) := ss.map fun s => (.inr s.w, .int s.v)
/-- what a made system holds -/
structure SysAt (K : PySem.W.Frag) (C : Addr) (av : List Addr) (H : Hp) (o : Addr) (ss : List SR) (ms : List MR) : Prop where
  at_ : ∃ dx a b d e xs ys kvs, H o = some (.ins C dx [("simple", .ref a), ("multipliers", .ref b), ("_values", .ref d), ("_rows", .ref e)]) ∧ SqT K H a xs ∧ Al (SRow K H) xs ss ∧ SqT K H b ys ∧ Al (MRow K H) ys ms ∧
    H d = some (.dK (sD ss)) ∧ H e = some (.dK kvs) ∧ (o ∉ av ∧ d ∉ av ∧ e ∉ av) ∧ Al (fun kv m => kv.1 = .inr m.w ∧ MRow K H kv.2 m) kvs ms
theorem SysAt.keep {K : PySem.W.Frag} {C : Addr} {av m : List Addr} {H H' : Hp} {o : Addr} {ss : List SR} {ms : List MR} (k : Keep m H H') (hm : ∀ b ∈ m, b ∈ av) (h : SysAt K C av H o ss ms) : SysAt K C av H' o ss ms := by
  obtain ⟨dx, a, b, d, e, xs, ys, kvs, h1, h2, h3, h4, h5, h6, h7, ⟨n1, n2, n3⟩, h8⟩ := h
  exact ⟨dx, a, b, d, e, xs, ys, kvs, k.at h1 fun z => n1 (hm o z), k.sqT h2, SRows.keep k h3, k.sqT h4, MRows.keep k h5, k.at h6 fun z => n2 (hm d z), k.at h7 fun z => n3 (hm e z), ⟨n1, n2, n3⟩, h8.imp fun _ _ ⟨e1, a, e2, e3⟩ => ⟨e1, a, e2, k.sqT e3⟩⟩
theorem SysAt.fresh {K : PySem.W.Frag} {C D : Addr} {av : List Addr} {H : Hp} {o : Addr} {ss : List SR} {ms : List MR} (hD : H D = none) (h : SysAt K C av H o ss ms) : SysAt K C (D :: av) H o ss ms := by
  obtain ⟨dx, a, b, d, e, xs, ys, kvs, h1, h2, h3, h4, h5, h6, h7, ⟨n1, n2, n3⟩, h8⟩ := h
  exact ⟨dx, a, b, d, e, xs, ys, kvs, h1, h2, h3, h4, h5, h6, h7, ⟨nm_cons (ne_of_none h1 hD) n1, nm_cons (ne_of_none h6 hD) n2, nm_cons (ne_of_none h7 hD) n3⟩, h8⟩
theorem SysAt.addL {K : PySem.W.Frag} {C p : Addr} {av : List Addr} {H : Hp} {o : Addr} {ss : List SR} {ms : List MR} {zs : List V} (hp : H p = some (.lst zs)) (h : SysAt K C av H o ss ms) : SysAt K C (p :: av) H o ss ms := by
  obtain ⟨dx, a, b, d, e, xs, ys, kvs, h1, h2, h3, h4, h5, h6, h7, ⟨n1, n2, n3⟩, h8⟩ := h
  exact ⟨dx, a, b, d, e, xs, ys, kvs, h1, h2, h3, h4, h5, h6, h7, ⟨nm_cons (fun z => by subst z; rw [h1] at hp; cases hp) n1, nm_cons (fun z => by subst z; rw [h6] at hp; cases hp) n2, nm_cons (fun z => by subst z; rw [h7] at hp; cases hp) n3⟩, h8⟩
theorem SysAt.wk {K : PySem.W.Frag} {C : Addr} {av av' : List Addr} {H : Hp} {o : Addr} {ss : List SR} {ms : List MR} (hm : ∀ b ∈ av', b ∈ av) (h : SysAt K C av H o ss ms) : SysAt K C av' H o ss ms := by
  obtain ⟨dx, a, b, d, e, xs, ys, kvs, h1, h2, h3, h4, h5, h6, h7, ⟨n1, n2, n3⟩, h8⟩ := h
  exact ⟨dx, a, b, d, e, xs, ys, kvs, h1, h2, h3, h4, h5, h6, h7, ⟨fun z => n1 (hm _ z), fun z => n2 (hm _ z), fun z => n3 (hm _ z)⟩, h8⟩
theorem SqB.ofins {K : PySem.W.Frag} {av : List Addr} {H : Hp} {a o C dx : Addr} {fs : List (Str × V)} {xs : List V} (ho : H o = some (.ins C dx fs)) (h : SqB K av H a xs) : SqB K (o :: av) H a xs := by
  rcases h with h | ⟨h, n⟩
  · exact .inl h
  · exact .inr ⟨h, nm_cons (fun e => by subst e; rw [h] at ho; cases ho) n⟩
theorem Conts.ofins {K : PySem.W.Frag} {av : List Addr} {H : Hp} {o C dx : Addr} {fs : List (Str × V)} {xs : List V} {ds : List (List V)} (ho : H o = some (.ins C dx fs)) (h : Al (Cont K av H) xs ds) : Al (Cont K (o :: av) H) xs ds :=
  h.imp fun _ _ ⟨a, e, s⟩ => ⟨a, e, SqB.ofins ho s⟩
def spSys (K : PySem.W.Frag) (C : Addr) : Sp := fun vs H Q _ => ∃ (o : Addr) (av : List Addr) (x y : V) (ss : List SR) (ms : List MR) (dx : Addr), vs = [.ref o, x, y] ∧ H o = some (.ins C dx []) ∧ Shp K av H x (ss.map sV) ∧ Shp K av H y (ms.map mV) ∧ Wf ss ms ∧
  ∀ H', Keep [o] H H' → SysAt K C [] H' o ss ms → Q .non H'
theorem putK_new {acc : List (Key × V)} {k : Key} {v : V} (h : ∀ kv ∈ acc, kv.1 ≠ k) : putK acc k v = acc ++ [(k, v)] := by
  unfold putK
  rw [if_neg]
  intro e
  obtain ⟨kv, hkv, e⟩ := List.any_eq_true.mp e
  exact h kv hkv (of_decide_eq_true e)
theorem nodup_take {α : Type} {l : List α} {i : Nat} {x : α} (nd : l.Nodup) (h : l[i]? = some x) : x ∉ l.take i := by
  obtain ⟨hl', e⟩ := List.getElem?_eq_some_iff.mp h
  have h2 := List.drop_eq_getElem_cons hl'
  rw [e] at h2
  have h3 := List.take_append_drop i l
  rw [h2] at h3
  rw [← h3] at nd
  exact fun hm => (List.nodup_append.mp nd).2.2 x hm x (by simp) rfl
theorem TRows.S {K : PySem.W.Frag} {H : Hp} {xs : List V} : ∀ {ss : List SR}, Al (TRow K H) xs (ss.map sV) → Al (SRow K H) xs ss := by
  intro ss
  induction ss generalizing xs with
  | nil => intro h; cases h; exact .nil
  | cons s ss ih => intro h; cases h with | cons r t => exact .cons r (ih t)
theorem TRows.M {K : PySem.W.Frag} {H : Hp} {xs : List V} : ∀ {ms : List MR}, Al (TRow K H) xs (ms.map mV) → Al (MRow K H) xs ms := by
  intro ss
  induction ss generalizing xs with
  | nil => intro h; cases h; exact .nil
  | cons s ss ih => intro h; cases h with | cons r t => exact .cons r (ih t)
theorem TRows.keep {K : PySem.W.Frag} {m : List Addr} {H H' : Hp} {xs : List V} {ds : List (List V)} (k : Keep m H H') (h : Al (TRow K H) xs ds) : Al (TRow K H') xs ds :=
  h.imp fun _ _ ⟨a, e, s⟩ => ⟨a, e, k.sqT s⟩
section
variable {P : Program} {w : World} {K : PySem.W.Frag} {mg : Str → Option Value} {base : Heap}
theorem c_System_init (T : Txt K mg) : Mak P w K mg base CX0 "System" T.C_System 4 ["self", "simple", "multipliers"] (spSys K T.C_System) := by
  refine T.d_System_init.ok sc_System_init (fun vs H Q E h => ?_) (fun f cdv A outer s H vs Q E hr h => ?_)
  · obtain ⟨o, av, x, y, ss, ms, dx, rfl, _⟩ := h
    rfl
  · obtain ⟨o, av, x, y, ss, ms, dx, rfl, ho, ⟨a, xs, rfl, ha, ra⟩, ⟨b, ys, rfl, hb, rb⟩, wf, k⟩ := h
    refine ⟨_, (pss_cons (ps_expr (pe_cal (c_check_rows T) hr (by omega) rfl pass0 (pa_cons pe_str (pa_cons (pv 1) (pa_cons (pe_gv rfl T.g_MOST_SIMPLE) pa_nil)))))
      (pss_cons (ps_expr (pe_cal (c_check_rows T) hr (by omega) rfl pass0 (pa_cons pe_str (pa_cons (pv 2) (pa_cons (pe_gv rfl T.g_MOST_MULTIPLIERS) pa_nil)))))
      (pss_cons (ps_expr (pe_cal (c_check_words T) hr (by omega) rfl pass0 (pa_cons (pv 1) (pa_cons (pv 2) pa_nil))))
      (pss_cons (ps_expr (pe_cal (c_check_endless T) hr (by omega) rfl pass0 (pa_cons (pv 2) pa_nil)))
      (pss_cons (k_sfld K rfl (pv 0) (pe_callTy (k_tup K rfl) rfl T.b_tuple (by decide +kernel) (pa_cons (pe_lc (own := [("row", 3)]) (g := (gName 3)) (tt := tYes) rfl sc_System_init.nd (k_sq K rfl (pv 1)) (blkOk_by (N := ["self", "simple", "multipliers", "row"]) (sc := defScope s_System_init) (by decide +kernel)) (fun _ _ _ _ _ => (pg_name (i := 3) sc_System_init.nd rfl (Or.inl rfl))) (fun _ _ _ _ _ => pts_nil) (fun _ _ _ _ _ => (pe_callTy (k_tup K rfl) rfl T.b_tuple (by decide +kernel) (pa_cons (pv 3) pa_nil)))) pa_nil)) rfl)
      (pss_cons (k_sfld K rfl (pv 0) (pe_callTy (k_tup K rfl) rfl T.b_tuple (by decide +kernel) (pa_cons (pe_lc (own := [("row", 3)]) (g := (gName 3)) (tt := tYes) rfl sc_System_init.nd (k_sq K rfl (pv 2)) (blkOk_by (N := ["self", "simple", "multipliers", "row"]) (sc := defScope s_System_init) (by decide +kernel)) (fun _ _ _ _ _ => (pg_name (i := 3) sc_System_init.nd rfl (Or.inl rfl))) (fun _ _ _ _ _ => pts_nil) (fun _ _ _ _ _ => (pe_callTy (k_tup K rfl) rfl T.b_tuple (by decide +kernel) (pa_cons (pv 3) pa_nil)))) pa_nil)) rfl)
      (pss_cons (k_sfld K rfl (pv 0) (pe_dc (own := [("row", 3)]) (g := (gName 3)) (tt := tYes) rfl sc_System_init.nd (k_sq K rfl (k_fld K rfl (pv 0) rfl)) (blkOk_by (N := ["self", "simple", "multipliers", "row"]) (sc := defScope s_System_init) (by decide +kernel)) (fun _ _ _ _ _ => (pg_name (i := 3) sc_System_init.nd rfl (Or.inl rfl))) (fun _ _ _ _ _ => pts_nil) (fun _ _ _ _ _ => (pe_ix (k_ix K rfl hr) (pv 3) pe_int (fun _ _ => rfl))) (fun _ _ _ _ _ => (pe_ix (k_ix K rfl hr) (pv 3) pe_int (fun _ _ => rfl)))) rfl)
      (pss_one (k_sfld K rfl (pv 0) (pe_dc (own := [("row", 3)]) (g := (gName 3)) (tt := tYes) rfl sc_System_init.nd (k_sq K rfl (k_fld K rfl (pv 0) rfl)) (blkOk_by (N := ["self", "simple", "multipliers", "row"]) (sc := defScope s_System_init) (by decide +kernel)) (fun _ _ _ _ _ => (pg_name (i := 3) sc_System_init.nd rfl (Or.inl rfl))) (fun _ _ _ _ _ => pts_nil) (fun _ _ _ _ _ => (pe_ix (k_ix K rfl hr) (pv 3) pe_int (fun _ _ => rfl))) (fun _ _ _ _ _ => (pv 3))) rfl))))))))), ?_⟩
    refine i_st (σ' := [some _, some _, some _, none]) rfl ?_
    have la := ra.len
    have lb := rb.len
    rw [List.length_map] at la lb
    have wsl := wf.sl
    have wml := wf.ml
    have ha := SqB.ofins ho ha
    have hb := SqB.ofins ho hb
    have ra := Conts.ofins ho ra
    have rb := Conts.ofins ho rb
    walk_at "go"
    refine ⟨_, a, o :: av, xs, ss.map sV, 24, rfl, ha, ra, by omega, .inl ⟨rfl, ss, rfl, wf.so⟩, fun H1 k1 => ?_⟩
    walk_at "go"
    refine ⟨_, b, o :: av, ys, ms.map mV, 6, rfl, by walk_at "tr", by walk_at "tr", by omega, .inr ⟨rfl, ms, rfl, wf.mo⟩, fun H2 k2 => ?_⟩
    walk_at "go"
    refine ⟨a, b, o :: av, xs, ys, _, _, ss.map (·.w), ms.map (·.w), rfl, by walk_at "tr", by walk_at "tr", by walk_at "tr", by walk_at "tr", Al.map fun s _ => rfl, Al.map fun s _ => rfl, wf.nd, by simp; omega, fun H3 k3 => ?_⟩
    walk_at "go"
    refine ⟨b, o :: av, ys, ms, rfl, by walk_at "tr", by walk_at "tr", wf.en, by omega, fun H4 k4 => ?_⟩
    walk_at "go"
    have ha4 : SqB K (o :: av) H4 a xs := by walk_at "tr"
    have hb4 : SqB K (o :: av) H4 b ys := by walk_at "tr"
    have ra4 : Al (Cont K (o :: av) H4) xs (ss.map sV) := by walk_at "tr"
    have rb4 : Al (Cont K (o :: av) H4) ys (ms.map mV) := by walk_at "tr"
    have ho4 : H4 o = some (.ins T.C_System dx []) := by walk_at "tr"
    have lc : ∀ (H4 : Hp) (zs : List V) (ds : List (List V)) (J : It) (G : Hp → Prop) (Q' : VK), Walk J zs.length G (YAt zs) → (∀ m H', Keep m H4 H' → (∀ b ∈ m, b ∈ o :: av) → G H') → Al (Cont K (o :: av) H4) zs ds → zs.length ≤ 100 →
        (∀ D acc H', Keep [] H4 H' → H4 D = none → H' D = some (.lst acc) → Al (TRow K H') acc ds → Q' (.ref D) H') →
        LcK (gName 3) tYes (tCB (uTup K) (tCons (tVar 3) tNil)) [3] [some (.ref o), some (.ref a), some (.ref b), none] Q' J H4 := by
      intro H4 zs ds J G Q' wk hG rz lz q
      refine i_lcW wk (fun D j acc H' => Keep [] H4 H' ∧ Al (TRow K H') acc (ds.take j)) (by walk_at "st") ?_ ?_ ?_ ?_
      · exact fun D H' _ kp _ => ⟨kp, by rw [List.take_zero]; exact .nil⟩
      · exact fun D j acc H' _ _ _ f => hG _ _ f.1 (by simp)
      · rintro D j x acc H5 H6 hj hD eD lD ⟨k5, r5⟩ ⟨rfl, hx⟩
        obtain ⟨d, hd, ⟨q, rfl, hq⟩⟩ := rz.get hx
        have hq6 : SqB K (o :: av) H6 q d := hq.keep k5 (by simp)
        walk_at "go"
        refine ⟨rfl, ?_⟩
        walk_at "go"
        refine i_tupB hq6 fun p H7 k7 e7 => ?_
        refine i_lcY (k7.at eD (by simp)) lD (by omega) fun H8 k8 e8 => ⟨(by walk_at "kp" : Keep [D] H4 H8).cut hD, ?_⟩
        rw [take_snoc hd]
        exact (TRows.keep k8 (TRows.keep k7 r5)).snoc ⟨p, rfl, k8.sqT e7⟩
      · rintro D acc H5 hD eD lD ⟨k5, r5⟩
        rw [rz.len, List.take_length] at r5
        exact q D acc H5 k5 hD eD r5
    have cl := T.cl_System
    have n1 := T.n_System_simple
    have n2 := T.n_System_multipliers
    have n3 := T.n_System__values
    have n4 := T.n_System__rows
    refine i_sqB ha4 fun J G wk hG => ?_
    refine lc H4 xs (ss.map sV) J G _ wk hG ra4 (by omega) fun D1 acc1 H5 k5 hD1 eD1 r5 => ?_
    walk_at "go"
    refine i_tupL (SqL.of eD1) fun a1 H6 ha1 k6 e6 => ?_
    walk_at "go"
    refine i_sfldv (by walk_at "tr") cl n1 (by simp) (by walk_at "pf") fun H7 k7 e7 => ?_
    have ra7 : Al (SRow K H7) acc1 ss := TRows.S (TRows.keep k7 (TRows.keep k6 r5))
    have ea7 : SqT K H7 a1 acc1 := by walk_at "tr"
    have hb7 : SqB K (o :: av) H7 b ys := by walk_at "tr"
    have rb7 : Al (Cont K (o :: av) H7) ys (ms.map mV) := by walk_at "tr"
    walk_at "go"
    refine i_sqB hb7 fun J G wk hG => ?_
    refine lc H7 ys (ms.map mV) J G _ wk hG rb7 (by omega) fun D2 acc2 H8 k8 hD2 eD2 r8 => ?_
    walk_at "go"
    refine i_tupL (SqL.of eD2) fun b1 H9 hb1 k9 e9 => ?_
    walk_at "go"
    refine i_sfldv (by walk_at "tr") cl n2 (by simp) (by walk_at "pf") fun H10 k10 e10 => ?_
    have rb10 : Al (MRow K H10) acc2 ms := TRows.M (TRows.keep k10 (TRows.keep k9 r8))
    have eb10 : SqT K H10 b1 acc2 := by walk_at "tr"
    have ra10 : Al (SRow K H10) acc1 ss := by walk_at "tr"
    have ea10 : SqT K H10 a1 acc1 := by walk_at "tr"
    walk_at "go"
    have l10 := ra10.len
    have ndS : (ss.map (·.w)).Nodup := (List.nodup_append.mp wf.nd).1
    have ndM : (ms.map (·.w)).Nodup := (List.nodup_append.mp wf.nd).2.1
    refine i_dcW (walk_tup (xs := acc1)) (fun D i acc H' => Keep [] H10 H' ∧ acc = sD (ss.take i)) (by walk_at "st") ?_ ?_ ?_ ?_
    · exact fun D H' _ kp _ => ⟨kp, rfl⟩
    · exact fun D i acc H' _ _ _ f => f.1.sqT ea10
    · rintro D j x acc H11 H12 hj hD eD lD ⟨k11, rfl⟩ ⟨rfl, hx⟩
      obtain ⟨s, hs, ⟨r, rfl, hr'⟩⟩ := ra10.get hx
      have hr2 : SqT K H12 r _ := k11.sqT hr'
      walk_at "go"
      refine ⟨rfl, ?_⟩
      walk_at "go"
      refine i_dcY (k := .inr s.w) rfl eD lD (by omega) fun H13 k13 e13 => ⟨(by walk_at "kp" : Keep [D] H10 H13).cut hD, ?_⟩
      rw [putK_new, take_snoc hs]
      · unfold sD; rw [List.map_append]; rfl
      · intro kv hkv e
        obtain ⟨s', hs', rfl⟩ := List.mem_map.mp hkv
        have e : s'.w = s.w := Sum.inr.inj e
        have h1 := nodup_take ndS (i := j) (x := s.w) (by rw [List.getElem?_map, hs]; rfl)
        rw [← List.map_take] at h1
        exact h1 (e ▸ List.mem_map.mpr ⟨s', hs', rfl⟩)
    rintro d1 kv1 H11 hd1 ed1 ld1 ⟨k11, rfl⟩
    rw [l10, List.take_length] at ed1
    walk_at "go"
    refine i_sfldv (by walk_at "tr") cl n3 (by simp) (by walk_at "pf") fun H12 k12 e12 => ?_
    have ra12 : Al (SRow K H12) acc1 ss := by walk_at "tr"
    have ea12 : SqT K H12 a1 acc1 := by walk_at "tr"
    have rb12 : Al (MRow K H12) acc2 ms := by walk_at "tr"
    have eb12 : SqT K H12 b1 acc2 := by walk_at "tr"
    have od1 : d1 ≠ o := fun e => by subst e; rw [e10] at hd1; cases hd1
    have ed12 : H12 d1 = some (.dK (sD ss)) := by walk_at "tr"
    have l12 := rb12.len
    walk_at "go"
    refine i_dcW (walk_tup (xs := acc2)) (fun D i acc H' => Keep [] H12 H' ∧ Al (fun kv m => kv.1 = .inr m.w ∧ MRow K H' kv.2 m) acc (ms.take i)) (by walk_at "st") ?_ ?_ ?_ ?_
    · exact fun D H' _ kp _ => ⟨kp, .nil⟩
    · exact fun D i acc H' _ _ _ f => f.1.sqT eb12
    · rintro D j x acc H13 H14 hj hD eD lD ⟨k13, r13⟩ ⟨rfl, hx⟩
      obtain ⟨m, hm, ⟨r, rfl, hr'⟩⟩ := rb12.get hx
      have hr2 : SqT K H14 r _ := k13.sqT hr'
      walk_at "go"
      refine ⟨rfl, ?_⟩
      walk_at "go"
      refine i_dcY (k := .inr m.w) rfl eD lD (by omega) fun H15 k15 e15 => ⟨(by walk_at "kp" : Keep [D] H12 H15).cut hD, ?_⟩
      rw [putK_new, take_snoc hm]
      · exact (r13.imp fun _ _ ⟨h1, a, h2, h3⟩ => ⟨h1, a, h2, k15.sqT h3⟩).snoc ⟨rfl, r, rfl, k15.sqT hr2⟩
      · intro kv hkv e
        obtain ⟨i', hi'⟩ := List.getElem?_of_mem hkv
        obtain ⟨m', hm', e', _⟩ := r13.get hi'
        have e2 : m'.w = m.w := Sum.inr.inj (e'.symm.trans e)
        have h1 := nodup_take ndM (i := j) (x := m.w) (by rw [List.getElem?_map, hm]; rfl)
        rw [← List.map_take] at h1
        exact h1 (e2 ▸ List.mem_map.mpr ⟨m', List.mem_of_getElem? hm', rfl⟩)
    rintro d2 kv2 H13 hd2 ed2 ld2 ⟨k13, r13⟩
    rw [l12, List.take_length] at r13
    walk_at "go"
    refine i_sfldv (by walk_at "tr") cl n4 (by simp) (by walk_at "pf") fun H14 k14 e14 => ?_
    have od2 : d2 ≠ o := fun e => by subst e; rw [e12] at hd2; cases hd2
    refine k H14 (by walk_at "kp") ⟨dx, a1, b1, d1, d2, acc1, acc2, kv2, e14, by walk_at "tr", by walk_at "tr", by walk_at "tr", by walk_at "tr", by walk_at "tr", by walk_at "tr", ⟨by simp, by simp, by simp⟩, ?_⟩
    exact r13.imp fun _ _ ⟨h1, a, h2, h3⟩ => ⟨h1, a, h2, k14.sqT h3⟩
end
theorem Shp.wk {K : PySem.W.Frag} {av av' : List Addr} {H : Hp} {x : V} {ds : List (List V)} (hm : ∀ b ∈ av', b ∈ av) (h : Shp K av H x ds) : Shp K av' H x ds := by
  obtain ⟨a, xs, e, h, r⟩ := h
  exact ⟨a, xs, e, h.wk hm, r.imp fun _ _ => Cont.wk hm⟩
def spMade (K : PySem.W.Frag) (C : Addr) : Sp := fun vs H Q _ => ∃ (t : Int) (p c d a b : Addr) (ss : List SR) (ms : List MR), vs = [.ref p, .ref d] ∧ PoolAt t H p c ∧ RowsAt K H d a b ss ms ∧ a ≠ p ∧ b ≠ p ∧ d ≠ p ∧ Wf ss ms ∧
  ∀ o H', H o = none → Keep [p] H H' → PoolAt t H' p c → SysAt K C [p] H' o ss ms → Q (.ref o) H'
section
variable {P : Program} {w : World} {K : PySem.W.Frag} {mg : Str → Option Value} {base : Heap}
theorem c_l_made (T : Txt K mg) : Cal P w K mg base CX0 "_law_made" 6 ["_law_pool_here", "_law_rows_here"] (spMade K T.C_System) := by
  refine T.d_l_made.ok sc_l_made (fun vs H Q E h => ?_) (fun f cdv A outer s H vs Q E hr h => ?_)
  · obtain ⟨t, p, c, d, a, b, ss, ms, rfl, _⟩ := h
    rfl
  · obtain ⟨t, p, c, d, a, b, ss, ms, rfl, hP, R, na, nb, nd, wf, k⟩ := h
    refine ⟨_, (pss_one (ps_ret (pe_mak (c_System_init T) hr (by omega) rfl pass0 (pa_cons (pe_cal (c_l_shaped T) hr (by omega) rfl pass0 (pa_cons (pv 0) (pa_cons (pe_ix (k_ix K rfl hr) (pv 1) pe_str (fun _ _ => rfl)) pa_nil))) (pa_cons (pe_cal (c_l_shaped T) hr (by omega) rfl pass0 (pa_cons (pv 0) (pa_cons (pe_ix (k_ix K rfl hr) (pv 1) pe_str (fun _ _ => rfl)) pa_nil))) pa_nil))))), ?_⟩
    refine i_st (σ' := [some _, some _]) rfl ?_
    have wsl := wf.sl
    have wml := wf.ml
    have dict := R.dict
    obtain ⟨xs, e1, r1⟩ := R.sl
    obtain ⟨ys, e2, r2⟩ := R.ml
    walk_at "go"
    refine ⟨t, p, c, a, xs, ss.map sV, rfl, hP, na, e1, SRows.T r1, by rw [List.length_map]; omega, fun d hd => ?_, fun x H1 s1 k1 P1 => ?_⟩
    · obtain ⟨s, _, rfl⟩ := List.mem_map.mp hd
      exact (by decide : 2 ≤ 1000)
    walk_at "go"
    refine ⟨t, p, c, b, ys, ms.map mV, rfl, P1, nb, k1.at e2 (nm_cons nb List.not_mem_nil), MRows.T (MRows.keep k1 r2), by rw [List.length_map]; omega, fun d hd => ?_, fun y H2 s2 k2 P2 => ?_⟩
    · obtain ⟨s, _, rfl⟩ := List.mem_map.mp hd
      exact (by decide : 5 ≤ 1000)
    walk_at "go"
    refine i_mk fun o dx H3 ho k3 e3 => ?_
    have s1' := s1.keep k2 (fun _ h => h)
    refine ⟨o, [], x, y, ss, ms, dx, rfl, e3, (s1'.keep k3 (by simp)).wk (by simp), (s2.keep k3 (by simp)).wk (by simp), wf, fun H4 k4 S => ⟨rfl, ?_⟩⟩
    have P3 : PoolAt t H3 p c := P2.keep k3 (by simp) (by simp)
    have np : p ≠ o := fun e => by obtain ⟨⟨i, a', b', e', _⟩, _⟩ := P2; rw [e, ho] at e'; cases e'
    have nc : c ≠ o := fun e => by obtain ⟨_, ⟨_, e', _⟩, _⟩ := P2; rw [e, ho] at e'; cases e'
    have P4 : PoolAt t H4 p c := P3.keep k4 (nm_cons np List.not_mem_nil) (nm_cons nc List.not_mem_nil)
    have hoH : H o = none := (k1.trans k2).dom _ ho
    refine k o H4 hoH ?_ P4 ?_
    · exact (by walk_at "kp" : Keep [o, p] H H4).cut hoH
    · obtain ⟨⟨i, a', b', e', _⟩, _⟩ := P4
      exact S.addL e'
end
/-! ### what a system tells -/
def lookS (ss : List SR) (x : Str) : Option Int := (ss.find? fun s => decide (s.w = x)).map (·.v)
def lookM (ms : List MR) (x : Str) : Option MR := ms.find? fun m => decide (m.w = x)
theorem sD_look (x : Str) : ∀ ss : List SR, valV (sD ss) (.inr x) = (lookS ss x).map V.int
  | [] => rfl
  | s :: ss => by
    have ih := sD_look x ss
    unfold lookS sD at *
    rw [List.map_cons]
    by_cases h : s.w = x
    · rw [valV_pos (by rw [h]), List.find?_cons_of_pos (by simpa using h)]
      rfl
    · rw [valV_neg (fun e => h (Sum.inr.inj e)), List.find?_cons_of_neg (by simpa using h)]
      exact ih
theorem kM_look {K : PySem.W.Frag} {H : Hp} (x : Str) : ∀ {kvs : List (Key × V)} {ms : List MR}, Al (fun kv m => kv.1 = .inr m.w ∧ MRow K H kv.2 m) kvs ms →
    match lookM ms x with
    | none => valV kvs (.inr x) = none
    | some m => ∃ r, valV kvs (.inr x) = some (.ref r) ∧ SqT K H r (mV m)
  | _, _, .nil => rfl
  | kv :: kvs, m :: ms, .cons ⟨h1, r, h2, h3⟩ t => by
    have ih := kM_look x t
    unfold lookM at *
    by_cases h : m.w = x
    · rw [List.find?_cons_of_pos (by simpa using h)]
      exact ⟨r, (valV_pos (by rw [h1, h])).trans (by rw [h2]), h3⟩
    · rw [List.find?_cons_of_neg (by simpa using h), valV_neg (fun e => h (Sum.inr.inj (h1.symm.trans e)))]
      exact ih
def spSysEndl (K : PySem.W.Frag) (C : Addr) : Sp := fun vs H Q _ => ∃ (o : Addr) (av : List Addr) (ss : List SR) (ms : List MR), vs = [.ref o] ∧ SysAt K C av H o ss ms ∧
  match endl ms with
  | none => Q .non H
  | some m => ∀ r, SqT K H r (mV m) → Q (.ref r) H
def spSysBnd (K : PySem.W.Frag) (C : Addr) : Sp := fun vs H Q _ => ∃ (o : Addr) (av : List Addr) (ss : List SR) (ms : List MR), vs = [.ref o] ∧ SysAt K C av H o ss ms ∧ Wf ss ms ∧ ∀ H', Keep [] H H' → Q (.int (bnd ss ms)) H'
def spSysVal (K : PySem.W.Frag) (C : Addr) : Sp := fun vs H Q _ => ∃ (o : Addr) (av : List Addr) (ss : List SR) (ms : List MR) (x : Str), vs = [.ref o, .str x] ∧ SysAt K C av H o ss ms ∧ Q (vO (lookS ss x)) H
def spSysRow (K : PySem.W.Frag) (C : Addr) : Sp := fun vs H Q _ => ∃ (o : Addr) (av : List Addr) (ss : List SR) (ms : List MR) (x : Str), vs = [.ref o, .str x] ∧ SysAt K C av H o ss ms ∧
  match lookM ms x with
  | none => Q .non H
  | some m => ∀ r, SqT K H r (mV m) → Q (.ref r) H
theorem bnd_fold {ss : List SR} {ms : List MR} (wf : Wf ss ms) : (match (ss.map (·.v) ++ ms.filterMap fun m => m.c.map fun c => c * m.v + m.r) with | [] => V.int 0 | n :: r => .int (r.foldl max n)) = .int (bnd ss ms) := by
  have hn : ∀ n ∈ ss.map (·.v) ++ ms.filterMap (fun m => m.c.map fun c => c * m.v + m.r), 0 ≤ n := by
    intro n hn
    rcases List.mem_append.mp hn with h | h
    · obtain ⟨s, hs, rfl⟩ := List.mem_map.mp h
      have := (wf.so s hs).2.1
      omega
    · obtain ⟨m, hm, e⟩ := List.mem_filterMap.mp h
      obtain ⟨_, h2, _, h4, h5, _⟩ := wf.mo m hm
      cases hc : m.c with
      | none => rw [hc] at e; cases e
      | some c =>
        rw [hc] at e
        injection e with e
        have e : c * m.v + m.r = n := e
        have := (h4 c hc).1
        have h6 : 0 ≤ c * m.v := Int.mul_nonneg (by omega) (by omega)
        omega
  show _ = V.int ((0 :: (ss.map (·.v) ++ ms.filterMap fun m => m.c.map fun c => c * m.v + m.r)).foldl max 0)
  generalize (ss.map (·.v) ++ ms.filterMap fun m => m.c.map fun c => c * m.v + m.r) = l at hn
  cases l with
  | nil => rfl
  | cons n r =>
    have := hn n (by simp)
    show V.int (r.foldl max n) = V.int (r.foldl max (max (max 0 0) n))
    rw [show max (max 0 0) n = n by omega]
section
variable {P : Program} {w : World} {K : PySem.W.Frag} {mg : Str → Option Value} {base : Heap}
theorem c_System_endless (T : Txt K mg) : Met P w K mg base CX0 T.C_System "endless" 1 ["self"] (spSysEndl K T.C_System) := by
  refine T.d_System_endless.ok sc_System_endless (fun vs H Q E h => ?_) (fun f cdv A outer s H vs Q E hr h => ?_)
  · obtain ⟨o, av, ss, ms, rfl, _⟩ := h
    rfl
  · obtain ⟨o, av, ss, ms, rfl, ⟨dx, a, b, d, e, xs, ys, kvs, h1, h2, h3, h4, h5, h6, h7, h8, h9⟩, k⟩ := h
    refine ⟨_, (pss_cons (ps_for PassesOwn.never rfl (k_sq K rfl (k_fld K rfl (pv 0) rfl)) (pg_name (i := 1) sc_System_endless.nd rfl (Or.inl rfl)) (pss_one (ps_if (pt_cmpR o_isN (pe_ix (k_ix K rfl hr) (pv 1) pe_int (fun _ _ => rfl)) pe_non (nomark _)) (pss_one (ps_ret (pv 1))) pss_nil)))
      (pss_one (ps_ret pe_non))), ?_⟩
    refine i_st (σ' := [some _, none]) rfl ?_
    have cl := T.cl_System
    have n2 := T.n_System_multipliers
    walk_at "go"
    refine i_forW (walk_tup (xs := ys)) (fun i σ H' => ∃ o1, σ = [some (.ref o), o1] ∧ H' = H ∧ endl ms = endl (ms.drop i)) ?_ ?_ ?_ ?_
    · exact ⟨_, rfl, rfl, rfl⟩
    · rintro i σ H' hi ⟨o1, rfl, rfl, _⟩
      exact h4
    · rintro i x σ H4 H5 hi ⟨o1, rfl, rfl, he⟩ ⟨rfl, hx⟩
      obtain ⟨m, hm, ⟨r, rfl, hr'⟩⟩ := h5.get hx
      have hdr : ms.drop i = m :: ms.drop (i + 1) := by
        obtain ⟨hl, e⟩ := List.getElem?_eq_some_iff.mp hm
        rw [List.drop_eq_getElem_cons hl, e]
      walk_at "go"
      refine i_isN ?_
      rw [vO_non]
      walk_at "go"
      refine i_iteB (fun hc => ?_) fun hc => ?_
      · walk_at "go"
        rw [hdr, endl_hit hc] at he
        rw [he] at k
        exact k r hr'
      · walk_at "go"
        refine ⟨_, rfl, rfl, ?_⟩
        rw [he, hdr, endl_skip hc]
    · rintro σ H4 ⟨o1, rfl, rfl, he⟩
      rw [h5.len, List.drop_length] at he
      walk_at "go"
      rw [he] at k
      exact k
theorem c_System_bounded_maximum (T : Txt K mg) : Met P w K mg base CX0 T.C_System "bounded_maximum" 1 ["self"] (spSysBnd K T.C_System) := by
  refine T.d_System_bounded_maximum.ok sc_System_bounded_maximum (fun vs H Q E h => ?_) (fun f cdv A outer s H vs Q E hr h => ?_)
  · obtain ⟨o, av, ss, ms, rfl, _⟩ := h
    rfl
  · obtain ⟨o, av, ss, ms, rfl, ⟨dx, a, b, d, e, xs, ys, kvs, h1, h2, h3, h4, h5, h6, h7, h8, h9⟩, wf, k⟩ := h
    refine ⟨_, (pss_cons (ps_setLc (i := 1) (own := [("row", 2)]) (g := (gName 2)) (tt := tYes) rfl sc_System_bounded_maximum.nd rfl rfl (sw_true rfl rfl rfl (by decide +kernel)) (k_sq K rfl (k_fld K rfl (pv 0) rfl)) (blkOk_by (N := ["self", "found", "row"]) (sc := defScope s_System_bounded_maximum) (by decide +kernel)) (fun _ _ _ _ _ => (pg_name (i := 2) sc_System_bounded_maximum.nd rfl (Or.inl rfl))) (fun _ _ _ _ _ => pts_nil) (fun _ _ _ _ _ => (pe_ix (k_ix K rfl hr) (pv 2) pe_int (fun _ _ => rfl))))
      (pss_cons (ps_expr (k_bm K rfl PySem.F.plainAttrs_list PySem.F.slot_list_extend PySem.F.type_list_extend mt_extend (pv 1) (pa_cons (pe_lc (own := [("row", 2)]) (g := (gName 2)) rfl sc_System_bounded_maximum.nd (k_sq K rfl (k_fld K rfl (pv 0) rfl)) (blkOk_by (N := ["self", "found", "row"]) (sc := defScope s_System_bounded_maximum) (by decide +kernel)) (fun _ _ _ _ _ => (pg_name (i := 2) sc_System_bounded_maximum.nd rfl (Or.inl rfl))) (fun _ _ _ _ _ => (pts_one (pt_cmpR o_notN (pe_ix (k_ix K rfl hr) (pv 2) pe_int (fun _ _ => rfl)) pe_non (nomark _)))) (fun _ _ _ _ _ => (pe_op (k_add K rfl) (pe_op (o_mul) (pe_ix (k_ix K rfl hr) (pv 2) pe_int (fun _ _ => rfl)) (pe_ix (k_ix K rfl hr) (pv 2) pe_int (fun _ _ => rfl))) (pe_ix (k_ix K rfl hr) (pv 2) pe_int (fun _ _ => rfl))))) pa_nil)))
      (pss_one (ps_ret (pe_callBK (k_maxD K rfl hr) rfl T.b_max (by decide +kernel) (pa_cons (pv 1) pa_nil) (pk_cons pe_int pk_nil)))))), ?_⟩
    refine i_st (σ' := [some _, none, none]) rfl ?_
    have cl := T.cl_System
    have n1 := T.n_System_simple
    have n2 := T.n_System_multipliers
    walk_at "go"
    refine i_lcW (walk_tup (xs := xs)) (fun D j acc H' => Keep [] H H' ∧ acc = (ss.take j).map fun s => .int s.v) (by walk_at "st") ?_ ?_ ?_ ?_
    · exact fun D H' _ kp _ => ⟨kp, by simp⟩
    · exact fun D j acc H' _ _ _ f => f.1.sqT h2
    · rintro D j x acc H10 H11 hj hD eD lD ⟨kD, rfl⟩ ⟨rfl, hx⟩
      obtain ⟨s, hs, ⟨r, rfl, hr'⟩⟩ := h3.get hx
      have hr2 : SqT K H11 r _ := kD.sqT hr'
      walk_at "go"
      refine ⟨rfl, ?_⟩
      walk_at "go"
      have hj2 := (List.getElem?_eq_some_iff.mp hs).1
      have := wf.sl
      exact i_lcY eD lD (by omega) fun H12 k12 e12 => ⟨(kD.wid0.trans k12).cut hD, by rw [take_snoc hs, List.map_append]; rfl⟩
    · rintro D acc H2 hD eD lD ⟨k2, rfl⟩
      rw [h3.len, List.take_length] at eD
      have hsl := wf.sl
      have hml := wf.ml
      walk_at "go"
      refine i_lcW (walk_tup (xs := ys)) (fun D2 j acc H' => Keep [] H2 H' ∧ acc = ((ms.take j).filterMap fun m => m.c.map fun c => c * m.v + m.r).map V.int) (by walk_at "st") ?_ ?_ ?_ ?_
      · exact fun D H' _ kp _ => ⟨kp, by simp⟩
      · exact fun D j acc H' _ _ _ f => f.1.sqT (k2.sqT h4)
      · rintro D2 j x acc H10 H11 hj hD2 eD2 lD2 ⟨kD, rfl⟩ ⟨rfl, hx⟩
        obtain ⟨m, hm, ⟨r, rfl, hr'⟩⟩ := h5.get hx
        have hr2 : SqT K H11 r _ := kD.sqT (k2.sqT hr')
        obtain ⟨_, hv1, hv2, hcc, _⟩ := wf.mo m (List.mem_of_getElem? hm)
        have hj2 := (List.getElem?_eq_some_iff.mp hm).1
        walk_at "go"
        refine ⟨rfl, ?_⟩
        walk_at "go"
        cases hc : m.c with
        | none =>
          walk_at "go"
          refine i_lcN eD2 lD2 ⟨kD, ?_⟩
          rw [take_snoc hm, List.filterMap_append]
          simp [hc]
        | some c0 =>
          have := hcc c0 hc
          rw [hc] at hr2
          walk_at "go"
          refine i_lcY eD2 lD2 (by omega) fun H12 k12 e12 => ⟨(kD.wid0.trans k12).cut hD2, ?_⟩
          rw [take_snoc hm, List.filterMap_append]
          simp [hc]
      · rintro D2 acc H3 hD2 eD2 lD2 ⟨k3, rfl⟩
        rw [h5.len, List.take_length] at eD2
        walk_at "go"
        refine i_ext (k3.at eD (by simp)) eD2 (sz ?_) fun H4 k4 e4 => ?_
        · have := List.length_filterMap_le (fun m : MR => m.c.map fun c => c * m.v + m.r) ms
          simp only [List.length_map]
          omega
        walk_at "go"
        refine ⟨D, _, .int 0, rfl, rfl, SqL.of (xs := (ss.map (·.v) ++ ms.filterMap fun m => m.c.map fun c => c * m.v + m.r).map V.int) (by rw [e4, List.map_append, List.map_map]; rfl), ?_⟩
        have z := k _ ((by walk_at "kp" : Keep [D] H H4).cut hD)
        rw [← bnd_fold wf] at z
        exact z
theorem c_System_simple_value (T : Txt K mg) : Met P w K mg base CX0 T.C_System "simple_value" 1 ["self", "word"] (spSysVal K T.C_System) := by
  refine T.d_System_simple_value.ok sc_System_simple_value (fun vs H Q E h => ?_) (fun f cdv A outer s H vs Q E hr h => ?_)
  · obtain ⟨o, av, ss, ms, x, rfl, _⟩ := h
    rfl
  · obtain ⟨o, av, ss, ms, x, rfl, ⟨dx, a, b, d, e, xs, ys, kvs, h1, h2, h3, h4, h5, h6, h7, h8, h9⟩, k⟩ := h
    refine ⟨_, (pss_one (ps_ret (pe_dget1 (hu_of hr) (k_fld K rfl (pv 0) rfl) (pv 1) ⟨rfl, rfl, rfl, rfl⟩))), ?_⟩
    refine i_st (σ' := [some _, some _]) rfl ?_
    have cl := T.cl_System
    have n1 := T.n_System__values
    walk_at "go"
    refine i_dget1 ?_
    walk_at "go"
    refine i_isD h6 ?_
    walk_at "go"
    refine i_getK (k := .inr x) h6 rfl ?_
    rw [sD_look]
    cases hl : lookS ss x with
    | none => rw [hl] at k; exact k
    | some v => rw [hl] at k; exact k
theorem c_System_multiplier (T : Txt K mg) : Met P w K mg base CX0 T.C_System "multiplier" 1 ["self", "word"] (spSysRow K T.C_System) := by
  refine T.d_System_multiplier.ok sc_System_multiplier (fun vs H Q E h => ?_) (fun f cdv A outer s H vs Q E hr h => ?_)
  · obtain ⟨o, av, ss, ms, x, rfl, _⟩ := h
    rfl
  · obtain ⟨o, av, ss, ms, x, rfl, ⟨dx, a, b, d, e, xs, ys, kvs, h1, h2, h3, h4, h5, h6, h7, h8, h9⟩, k⟩ := h
    refine ⟨_, (pss_one (ps_ret (pe_dget1 (hu_of hr) (k_fld K rfl (pv 0) rfl) (pv 1) ⟨rfl, rfl, rfl, rfl⟩))), ?_⟩
    refine i_st (σ' := [some _, some _]) rfl ?_
    have cl := T.cl_System
    have n1 := T.n_System__rows
    walk_at "go"
    refine i_dget1 ?_
    walk_at "go"
    refine i_isD h7 ?_
    walk_at "go"
    refine i_getK (k := .inr x) h7 rfl ?_
    have z := kM_look x h9
    cases hl : lookM ms x with
    | none =>
      rw [hl] at k z
      rw [show valV kvs (.inr x) = none from z]
      exact k
    | some v =>
      rw [hl] at k z
      obtain ⟨r, hz, hr'⟩ := z
      rw [hz]
      exact k r hr'
end
/-! ### covering -/
/-- the count with which a multiplier is looked at -/
def timesB (m : MR) (c : Int) : Int :=
  match m.c with
    | none => min c ((c + 1) / m.v)
    | some k => min (min c ((c + 1) / m.v)) k
def timesOf (m : MR) (c : Int) : Int := if decide (timesB m c = 0) && m.u then 1 else timesB m c
def stepsOf (ss : List SR) (ms : List MR) (c : Int) : List (Str × Int) := ss.map (fun s => (s.w, 0)) ++ ms.map fun m => (m.w, timesOf m c)
def isCnt (m : MR) (c t : Int) : Bool := if decide (t < 1) || !okC m.c t then false else decide (t ≤ c) || (decide (t = 1) && m.u)
def reachM (m : MR) (c t : Int) : Option Int := if !isCnt m c t || decide (c + 1 < t * m.v) then none else some (t * m.v + min c m.r)
def reachS (v c : Int) : Option Int := if v ≤ c + 1 then some v else none
def reach (ss : List SR) (ms : List MR) (c : Int) (x : Str × Int) : Option Int :=
  match lookS ss x.1 with
  | some v => if x.2 = 0 then reachS v c else none
  | none => match lookM ms x.1 with
    | none => none
    | some m => reachM m c x.2
def bestStep (R : Str × Int → Option Int) (st : Option (Str × Int) × Int) (x : Str × Int) : Option (Str × Int) × Int :=
  match R x with
  | some r => if st.2 < r then (some x, r) else st
  | none => st
def best (ss : List SR) (ms : List MR) (c : Int) : Option (Str × Int) × Int := (stepsOf ss ms c).foldl (bestStep (reach ss ms c)) (none, c)
def coverF (ss : List SR) (ms : List MR) (needed : Int) : Nat → Int → List (Str × Int) × Int
  | 0, c => ([], c)
  | f + 1, c => if c < needed then
      match best ss ms c with
      | (none, _) => ([], c)
      | (some x, r) => (x :: (coverF ss ms needed f r).1, (coverF ss ms needed f r).2)
    else ([], c)
theorem lookS_mem {ss : List SR} {x : Str} {v : Int} (h : lookS ss x = some v) : ∃ s ∈ ss, s.w = x ∧ s.v = v := by
  unfold lookS at h
  cases hf : ss.find? (fun s => decide (s.w = x)) with
  | none => rw [hf] at h; cases h
  | some s =>
    rw [hf] at h
    injection h with h
    exact ⟨s, List.mem_of_find?_eq_some hf, by simpa using List.find?_some hf, h⟩
theorem lookM_mem {ms : List MR} {x : Str} {m : MR} (h : lookM ms x = some m) : m ∈ ms ∧ m.w = x :=
  ⟨List.mem_of_find?_eq_some h, by simpa using List.find?_some h⟩
theorem find_nodup {α : Type} (f : α → Str) : ∀ {l : List α}, (l.map f).Nodup → ∀ a ∈ l, l.find? (fun b => decide (f b = f a)) = some a
  | [], _, a, h => absurd h (by simp)
  | b :: l, nd, a, h => by
    rw [List.map_cons, List.nodup_cons] at nd
    rcases List.mem_cons.mp h with rfl | h
    · simp
    · have hne : f b ≠ f a := fun e => nd.1 (e ▸ List.mem_map.mpr ⟨a, h, rfl⟩)
      rw [List.find?_cons_of_neg (by simpa using hne)]
      exact find_nodup f nd.2 a h
theorem Wf.lookS {ss : List SR} {ms : List MR} (wf : Wf ss ms) {s : SR} (h : s ∈ ss) : lookS ss s.w = some s.v := by
  unfold My.lookS
  rw [find_nodup (fun s : SR => s.w) (List.nodup_append.mp wf.nd).1 s h]
  rfl
theorem Wf.lookM {ss : List SR} {ms : List MR} (wf : Wf ss ms) {m : MR} (h : m ∈ ms) : lookM ms m.w = some m :=
  find_nodup (fun m : MR => m.w) (List.nodup_append.mp wf.nd).2.1 m h
theorem Wf.lookSM {ss : List SR} {ms : List MR} (wf : Wf ss ms) {m : MR} (h : m ∈ ms) : My.lookS ss m.w = none := by
  cases hl : My.lookS ss m.w with
  | none => rfl
  | some v =>
    obtain ⟨s, hs, e, _⟩ := lookS_mem hl
    exact absurd e ((List.nodup_append.mp wf.nd).2.2 s.w (List.mem_map.mpr ⟨s, hs, rfl⟩) m.w (List.mem_map.mpr ⟨m, h, rfl⟩))
theorem Wf.reachS {ss : List SR} {ms : List MR} (wf : Wf ss ms) {s : SR} (h : s ∈ ss) (c : Int) : reach ss ms c (s.w, 0) = My.reachS s.v c := by
  unfold reach
  rw [wf.lookS h]
  simp
theorem Wf.reachM {ss : List SR} {ms : List MR} (wf : Wf ss ms) {m : MR} (h : m ∈ ms) (c t : Int) : reach ss ms c (m.w, t) = My.reachM m c t := by
  unfold reach
  rw [wf.lookSM h, wf.lookM h]
/-! what is said -/
theorem said_simple {ss : List SR} {ms : List MR} (hm : ∀ m ∈ ms, 2 ≤ m.v) {s : SR} (h : s ∈ ss) : 0 < ways ss ms s.v := by
  rw [ways_eq hm]
  have h1 : 0 < cntS ss s.v := by
    unfold cntS
    have : s ∈ ss.filter fun s' => decide (s'.v = s.v) := List.mem_filter.mpr ⟨h, by simp⟩
    have := List.length_pos_of_mem this
    omega
  have h2 := sum_nn' (l := ms) (f := term (ways ss ms) s.v) fun m _ => term_nn (ways_nn ss ms) _ m
  omega
theorem sum_pos {α : Type} {f : α → Int} : ∀ {l : List α} {a : α}, (∀ a ∈ l, 0 ≤ f a) → a ∈ l → 0 < f a → 0 < (l.map f).sum
  | [], _, _, h, _ => absurd h (by simp)
  | b :: l, a, hn, h, hp => by
    rw [List.map_cons, List.sum_cons]
    have h1 := hn b (by simp)
    have h2 := sum_nn' (l := l) (f := f) fun b hb => hn b (by simp [hb])
    rcases List.mem_cons.mp h with rfl | h
    · omega
    · have := sum_pos (l := l) (fun b hb => hn b (by simp [hb])) h hp
      omega
theorem sum_pos_mem {α : Type} {f : α → Int} : ∀ {l : List α}, 0 < (l.map f).sum → ∃ a ∈ l, 0 < f a
  | [], h => absurd h (by simp)
  | b :: l, h => by
    rw [List.map_cons, List.sum_cons] at h
    by_cases hb : 0 < f b
    · exact ⟨b, by simp, hb⟩
    · obtain ⟨a, h1, h2⟩ := sum_pos_mem (f := f) (l := l) (by omega)
      exact ⟨a, by simp [h1], h2⟩
/-- said with m: count g, rest r -/
theorem said_mult {ss : List SR} {ms : List MR} (hm : ∀ m ∈ ms, 2 ≤ m.v) {m : MR} (h : m ∈ ms) {g r : Int} (hg : 1 ≤ g) (hc : okC m.c g = true) (hr : 0 ≤ r) (hr1 : r ≤ m.r) (hr2 : r < m.v)
    (w1 : (g = 1 ∧ m.u = true) ∨ 0 < ways ss ms g) (w2 : r = 0 ∨ 0 < ways ss ms r) : 0 < ways ss ms (g * m.v + r) := by
  have hv := hm m h
  have e1 : (g * m.v + r) / m.v = g := by
    rw [Int.add_comm, Int.add_mul_ediv_right _ _ (by omega), Int.ediv_eq_zero_of_lt hr hr2]
    omega
  rw [ways_eq hm]
  have h1 : 0 ≤ cntS ss (g * m.v + r) := by unfold cntS; omega
  have h2 : 0 < (ms.map (term (ways ss ms) (g * m.v + r))).sum := by
    refine sum_pos (fun m _ => term_nn (ways_nn ss ms) _ m) h ?_
    unfold term
    have e2 : g * m.v + r - g * m.v = r := by omega
    have hf : fitM m (g * m.v + r) = true := by
      unfold fitM
      rw [e1, e2, hc]
      simp only [Bool.and_true, Bool.and_eq_true, decide_eq_true_eq]
      omega
    rw [if_pos hf, e1, e2]
    refine Int.mul_pos ?_ ?_
    · unfold headW
      split
      · omega
      · rename_i hn
        rcases w1 with ⟨w1, w3⟩ | w1
        · exact absurd (by simp [w1, w3]) hn
        · exact w1
    · unfold tailW
      split
      · omega
      · rcases w2 with w2 | w2
        · contradiction
        · exact w2
  omega
def Cov (ss : List SR) (ms : List MR) (c : Int) : Prop := 0 ≤ c ∧ ∀ k, 1 ≤ k → k ≤ c → 0 < ways ss ms k
theorem isCnt_of {m : MR} {c t : Int} (h : isCnt m c t = true) : 1 ≤ t ∧ okC m.c t = true ∧ (t ≤ c ∨ (t = 1 ∧ m.u = true)) := by
  unfold isCnt at h
  split at h
  · cases h
  · rename_i hn
    simp only [Bool.or_eq_true, decide_eq_true_eq, Bool.not_eq_true', not_or, Bool.not_eq_false] at hn
    simp only [Bool.or_eq_true, Bool.and_eq_true, decide_eq_true_eq] at h
    exact ⟨by omega, hn.2, h⟩
theorem isCnt_mk {m : MR} {c t : Int} (h1 : 1 ≤ t) (h2 : okC m.c t = true) (h3 : t ≤ c ∨ (t = 1 ∧ m.u = true)) : isCnt m c t = true := by
  unfold isCnt
  rw [if_neg]
  · simp only [Bool.or_eq_true, Bool.and_eq_true, decide_eq_true_eq]
    exact h3
  · simp only [h2, Bool.or_eq_true, decide_eq_true_eq, Bool.not_eq_true', not_or]
    exact ⟨by omega, by simp⟩
theorem cov_mult {ss : List SR} {ms : List MR} (wf : Wf ss ms) {c t r : Int} (h : Cov ss ms c) {m : MR} (hm : m ∈ ms) (e : reachM m c t = some r) : Cov ss ms r := by
  unfold reachM at e
  split at e
  · cases e
  · rename_i hn
    injection e with e
    simp only [Bool.or_eq_true, Bool.not_eq_true', decide_eq_true_eq, not_or, Bool.not_eq_false] at hn
    obtain ⟨hn1, hn2⟩ := hn
    obtain ⟨t1, t2, t3⟩ := isCnt_of hn1
    obtain ⟨_, hv, _, _, hr0, hr1⟩ := wf.mo m hm
    have htv : 0 ≤ t * m.v := Int.mul_nonneg (by omega) (by omega)
    refine ⟨by have := h.1; omega, fun k hk1 hk2 => ?_⟩
    by_cases hk : k ≤ c
    · exact h.2 k hk1 hk
    · have hk' : t * m.v ≤ k := by omega
      have z := said_mult (ss := ss) wf.v2 hm (g := t) (r := k - t * m.v) t1 t2 (by omega) (by omega) (by omega) ?_ ?_
      · rwa [show t * m.v + (k - t * m.v) = k by omega] at z
      · rcases t3 with t3 | t3
        · exact .inr (h.2 t t1 t3)
        · exact .inl t3
      · by_cases h0 : k - t * m.v = 0
        · exact .inl h0
        · exact .inr (h.2 _ (by omega) (by omega))
theorem cov_reach {ss : List SR} {ms : List MR} (wf : Wf ss ms) {c r : Int} {x : Str × Int} (h : Cov ss ms c) (e : reach ss ms c x = some r) (hr : c < r) : Cov ss ms r := by
  unfold reach at e
  split at e
  · rename_i v hv
    obtain ⟨s, hs, _, rfl⟩ := lookS_mem hv
    split at e
    · unfold reachS at e
      split at e
      · injection e with e
        subst e
        refine ⟨by have := h.1; omega, fun k hk1 hk2 => ?_⟩
        by_cases hk : k ≤ c
        · exact h.2 k hk1 hk
        · have : k = s.v := by omega
          subst this
          exact said_simple wf.v2 hs
      · cases e
    · cases e
  · split at e
    · cases e
    · rename_i m hm
      exact cov_mult wf h (lookM_mem hm).1 e
theorem best_inv {ss : List SR} {ms : List MR} {c : Int} : ∀ (l : List (Str × Int)) (st : Option (Str × Int) × Int),
    ((∀ x, st.1 = some x → reach ss ms c x = some st.2 ∧ c < st.2) ∧ c ≤ st.2) →
    let z := l.foldl (bestStep (reach ss ms c)) st
    ((∀ x, z.1 = some x → reach ss ms c x = some z.2 ∧ c < z.2) ∧ st.2 ≤ z.2 ∧ (z.1 = none → st.1 = none ∧ z.2 = st.2) ∧ ∀ x ∈ l, ∀ r, reach ss ms c x = some r → r ≤ z.2)
  | [], st, h => ⟨h.1, Int.le_refl _, fun e => ⟨e, rfl⟩, by simp⟩
  | x :: l, st, h => by
    have h1 : let st' := bestStep (reach ss ms c) st x
        ((∀ y, st'.1 = some y → reach ss ms c y = some st'.2 ∧ c < st'.2) ∧ c ≤ st'.2) ∧ st.2 ≤ st'.2 ∧ (st'.1 = none → st.1 = none ∧ st'.2 = st.2) ∧ ∀ r, reach ss ms c x = some r → r ≤ st'.2 := by
      unfold bestStep
      cases hR : reach ss ms c x with
      | none => exact ⟨h, Int.le_refl _, fun e => ⟨e, rfl⟩, fun r e => (by cases e)⟩
      | some r =>
        dsimp only
        split
        · rename_i hlt
          have := h.2
          refine ⟨⟨fun y e => ?_, by show c ≤ r; omega⟩, by show st.2 ≤ r; omega, fun e => (by cases e), fun r' e => by injection e with e; show r' ≤ r; omega⟩
          injection e with e
          subst e
          exact ⟨hR, by show c < r; omega⟩
        · rename_i hlt
          exact ⟨h, Int.le_refl _, fun e => ⟨e, rfl⟩, fun r' e => by injection e with e; omega⟩
    obtain ⟨a1, a2, a3, a4⟩ := h1
    obtain ⟨b1, b2, b3, b4⟩ := best_inv l _ a1
    refine ⟨b1, Int.le_trans a2 b2, fun e => ?_, fun y hy r hr => ?_⟩
    · obtain ⟨e1, e2⟩ := b3 e
      obtain ⟨e3, e4⟩ := a3 e1
      exact ⟨e3, e2.trans e4⟩
    · rcases List.mem_cons.mp hy with rfl | hy
      · exact Int.le_trans (a4 r hr) b2
      · exact b4 y hy r hr
theorem best_some {ss : List SR} {ms : List MR} {c : Int} {x : Str × Int} (h : (best ss ms c).1 = some x) : reach ss ms c x = some (best ss ms c).2 ∧ c < (best ss ms c).2 :=
  (best_inv (stepsOf ss ms c) (none, c) ⟨fun _ e => (by cases e), Int.le_refl _⟩).1 x h
theorem okC_min {m : MR} {g k : Int} (hc : okC m.c g = true) (e : m.c = some k) : g ≤ k := by
  rw [e] at hc
  simpa [okC] using hc
/-- if the next number is said, a step is found -/
theorem best_none {ss : List SR} {ms : List MR} (wf : Wf ss ms) {c : Int} (hc0 : 0 ≤ c) (h : (best ss ms c).1 = none) : ways ss ms (c + 1) = 0 := by
  obtain ⟨_, _, b3, b4⟩ := best_inv (ss := ss) (ms := ms) (c := c) (stepsOf ss ms c) (none, c) ⟨fun _ e => (by cases e), Int.le_refl _⟩
  have hz := (b3 h).2
  have nn := ways_nn ss ms (c + 1)
  suffices ¬ 0 < ways ss ms (c + 1) by omega
  intro hp
  rw [ways_eq wf.v2] at hp
  have hall : ∀ x ∈ stepsOf ss ms c, ∀ r, reach ss ms c x = some r → r ≤ c := fun x hx r hr => by
    have := b4 x hx r hr
    have hz : ((stepsOf ss ms c).foldl (bestStep (reach ss ms c)) (none, c)).2 = c := hz
    omega
  by_cases hs : 0 < cntS ss (c + 1)
  · unfold cntS at hs
    have : 0 < (ss.filter fun s => decide (s.v = c + 1)).length := by omega
    obtain ⟨s, hs'⟩ := List.exists_mem_of_length_pos this
    obtain ⟨h1, h2⟩ := List.mem_filter.mp hs'
    have h2 : s.v = c + 1 := by simpa using h2
    have := hall (s.w, 0) (by unfold stepsOf; exact List.mem_append_left _ (List.mem_map.mpr ⟨s, h1, rfl⟩)) (c + 1) (by rw [wf.reachS h1]; unfold reachS; rw [if_pos (by omega), h2])
    omega
  · obtain ⟨m, hm, ht⟩ := sum_pos_mem (l := ms) (f := term (ways ss ms) (c + 1)) (by omega)
    unfold term at ht
    by_cases hf : fitM m (c + 1) = true
    · rw [if_pos hf] at ht
      obtain ⟨h1, h2, h3⟩ := fitM_pos hf
      obtain ⟨g1, g2, g3, g4, g5⟩ := parts_lt (wf.v2 m hm) h1
      have hgv : (c + 1) / m.v ≤ c := by omega
      have hr0 := (wf.mo m hm).2.2.2.2.1
      have eb : timesB m c = (c + 1) / m.v := by
        unfold timesB
        have e1 : min c ((c + 1) / m.v) = (c + 1) / m.v := by omega
        rw [e1]
        cases hk : m.c with
        | none => rfl
        | some k =>
          have := okC_min h3 hk
          dsimp only
          omega
      have et : timesOf m c = (c + 1) / m.v := by
        unfold timesOf
        rw [eb, if_neg]
        simp only [Bool.and_eq_true, decide_eq_true_eq]
        omega
      have := hall (m.w, timesOf m c) (by unfold stepsOf; exact List.mem_append_right _ (List.mem_map.mpr ⟨m, hm, rfl⟩)) ((c + 1) / m.v * m.v + min c m.r) (by
        rw [wf.reachM hm, et]
        unfold reachM
        rw [if_neg]
        simp only [Bool.or_eq_true, Bool.not_eq_true', decide_eq_true_eq, not_or, Bool.not_eq_false]
        exact ⟨isCnt_mk (by omega) h3 (.inl hgv), by omega⟩)
      omega
    · rw [if_neg hf] at ht
      omega
theorem cover_end {ss : List SR} {ms : List MR} (wf : Wf ss ms) (needed : Int) : ∀ (f : Nat) (c : Int), Cov ss ms c → needed - c ≤ f →
    Cov ss ms (coverF ss ms needed f c).2 ∧ (needed ≤ (coverF ss ms needed f c).2 ∨ ways ss ms ((coverF ss ms needed f c).2 + 1) = 0)
  | 0, c, h, hf => ⟨h, .inl (by show needed ≤ c; omega)⟩
  | f + 1, c, h, hf => by
    unfold coverF
    split
    · rename_i hlt
      cases hb : best ss ms c with
      | mk x r =>
        cases x with
        | none => exact ⟨h, .inr (best_none wf h.1 (by rw [hb]))⟩
        | some x =>
          have hb' := best_some (ss := ss) (ms := ms) (c := c) (x := x) (by rw [hb])
          rw [hb] at hb'
          obtain ⟨h1, h2⟩ := hb'
          dsimp only at h1 h2 ⊢
          exact cover_end wf needed f r (cov_reach wf h h1 h2) (by omega)
    · exact ⟨h, .inl (by show needed ≤ c; omega)⟩
theorem coverF_ge {ss : List SR} {ms : List MR} {N : Int} {m : Nat} {c : Int} (h : ¬ c < N) : coverF ss ms N m c = ([], c) := by
  cases m with
  | zero => rfl
  | succ m => unfold coverF; rw [if_neg h]
theorem coverF_none {ss : List SR} {ms : List MR} {N : Int} {m : Nat} {c r : Int} (h : c < N) (hb : best ss ms c = (none, r)) : coverF ss ms N (m + 1) c = ([], c) := by
  unfold coverF
  rw [if_pos h, hb]
theorem coverF_some {ss : List SR} {ms : List MR} {N : Int} {m : Nat} {c r : Int} {x : Str × Int} (h : c < N) (hb : best ss ms c = (some x, r)) : coverF ss ms N (m + 1) c = (x :: (coverF ss ms N m r).1, (coverF ss ms N m r).2) := by
  rw [coverF, if_pos h, hb]
theorem timesB_none {m : MR} (hc : m.c = none) (c : Int) : min c ((c + 1) / m.v) = timesB m c := by unfold timesB; rw [hc]
theorem timesB_some {m : MR} {k : Int} (hc : m.c = some k) (c : Int) : min (min c ((c + 1) / m.v)) k = timesB m c := by unfold timesB; rw [hc]
theorem cover_ge {ss : List SR} {ms : List MR} (needed : Int) : ∀ (f : Nat) (c : Int), c ≤ (coverF ss ms needed f c).2
  | 0, c => Int.le_refl _
  | f + 1, c => by
    unfold coverF
    split
    · cases hb : best ss ms c with
      | mk x r =>
        cases x with
        | none => exact Int.le_refl _
        | some x =>
          have hb' := best_some (ss := ss) (ms := ms) (c := c) (x := x) (by rw [hb])
          rw [hb] at hb'
          have := cover_ge (ss := ss) (ms := ms) needed f r
          dsimp only at hb' ⊢
          omega
    · exact Int.le_refl _
/-! the first gap, the first double -/
def gapOf (ss : List SR) (ms : List MR) (N : Int) : Option Int :=
  let c := (coverF ss ms N N.toNat 0).2
  if N ≤ c then none else some (c + 1)
def gapsL (ss : List SR) (ms : List MR) (N : Nat) : List Int := ((List.range N).filter fun (k : Nat) => decide (ways ss ms ((k : Int) + 1) = 0)).map fun (k : Nat) => (k : Int) + 1
theorem gap_due {ss : List SR} {ms : List MR} (wf : Wf ss ms) {N : Int} (hN : 0 ≤ N) : gapOf ss ms N = (gapsL ss ms N.toNat).head? := by
  obtain ⟨h1, h2⟩ := cover_end wf N N.toNat 0 ⟨Int.le_refl _, fun k a b => by omega⟩ (by omega)
  unfold gapOf gapsL
  generalize (coverF ss ms N N.toNat 0).2 = c at h1 h2
  rw [List.head?_map, List.head?_filter]
  dsimp only
  by_cases hc : N ≤ c
  · rw [if_pos hc]
    have : (List.range N.toNat).find? (fun (k : Nat) => decide (ways ss ms ((k : Int) + 1) = 0)) = none := by
      rw [List.find?_eq_none]
      intro k hk
      rw [List.mem_range] at hk
      have := h1.2 ((k : Int) + 1) (by omega) (by omega)
      simp only [decide_eq_true_eq]
      omega
    rw [this]
    rfl
  · rw [if_neg hc]
    have hw : ways ss ms (c + 1) = 0 := by
      rcases h2 with h2 | h2
      · exact absurd h2 hc
      · exact h2
    have h0 := h1.1
    have : (List.range N.toNat).find? (fun (k : Nat) => decide (ways ss ms ((k : Int) + 1) = 0)) = some c.toNat := by
      rw [List.find?_range_eq_some]
      refine ⟨by rw [Int.toNat_of_nonneg h0]; simpa using hw, by rw [List.mem_range]; omega, fun j hj => ?_⟩
      have := h1.2 ((j : Int) + 1) (by omega) (by omega)
      simp only [Bool.not_eq_true', decide_eq_false_iff_not]
      omega
    rw [this]
    show some (c + 1) = some (((c.toNat : Nat) : Int) + 1)
    rw [Int.toNat_of_nonneg h0]
def dblOf (ss : List SR) (ms : List MR) (N : Nat) : Option Int := ((List.range (N + 1)).find? fun (k : Nat) => decide (cap (ways ss ms (k : Int)) = 2)).map fun (k : Nat) => (k : Int)
def dblsL (ss : List SR) (ms : List MR) (N : Nat) : List Int := ((List.range N).filter fun (k : Nat) => decide (1 < ways ss ms ((k : Int) + 1))).map fun (k : Nat) => (k : Int) + 1
theorem dbl_due {ss : List SR} {ms : List MR} (wf : Wf ss ms) (N : Nat) : dblOf ss ms N = (dblsL ss ms N).head? := by
  unfold dblOf dblsL
  rw [List.head?_map, List.head?_filter, List.range_succ_eq_map, List.find?_cons_of_neg, List.find?_map]
  · have e : ((fun (k : Nat) => decide (cap (ways ss ms (k : Int)) = 2)) ∘ Nat.succ) = fun (k : Nat) => decide (1 < ways ss ms ((k : Int) + 1)) := by
      funext k
      show decide (cap (ways ss ms ((k + 1 : Nat) : Int)) = 2) = _
      rw [show ((k + 1 : Nat) : Int) = (k : Int) + 1 by omega]
      unfold cap
      congr 1
      apply propext
      omega
    rw [e, Option.map_map]
    rfl
  · show ¬ decide (cap (ways ss ms ((0 : Nat) : Int)) = 2) = true
    rw [ways_le0 wf.s1 wf.v2 (by simp)]
    decide
theorem SysAt.addI {K : PySem.W.Frag} {C C' dx p : Addr} {av : List Addr} {H : Hp} {o : Addr} {ss : List SR} {ms : List MR} (hp : H p = some (.ins C' dx [])) (h : SysAt K C av H o ss ms) : SysAt K C (p :: av) H o ss ms := by
  obtain ⟨dx, a, b, d, e, xs, ys, kvs, h1, h2, h3, h4, h5, h6, h7, ⟨n1, n2, n3⟩, h8⟩ := h
  exact ⟨dx, a, b, d, e, xs, ys, kvs, h1, h2, h3, h4, h5, h6, h7, ⟨nm_cons (fun z => by subst z; rw [h1] at hp; cases hp) n1, nm_cons (fun z => by subst z; rw [h6] at hp; cases hp) n2, nm_cons (fun z => by subst z; rw [h7] at hp; cases hp) n3⟩, h8⟩
/-- the first n places of the table -/
def tabL (ss : List SR) (ms : List MR) (n : Nat) : List V := (List.range n).map fun (k : Nat) => .int (cap (ways ss ms (k : Int)))
theorem tabL_at {ss : List SR} {ms : List MR} {n : Nat} {k : Int} (h0 : 0 ≤ k) (h : k < n) : atI (tabL ss ms n) k = some (.int (cap (ways ss ms k))) := by
  refine atI_of h0 ?_
  unfold tabL
  rw [List.getElem?_map, List.getElem?_range (by omega)]
  show some (V.int (cap (ways ss ms ((k.toNat : Nat) : Int)))) = _
  rw [Int.toNat_of_nonneg h0]
theorem tabL_snoc (ss : List SR) (ms : List MR) (n : Nat) : tabL ss ms (n + 1) = tabL ss ms n ++ [.int (cap (ways ss ms (n : Int)))] := by
  unfold tabL
  rw [List.range_succ, List.map_append]
  rfl
theorem tabL_len (ss : List SR) (ms : List MR) (n : Nat) : (tabL ss ms n).length = n := by
  unfold tabL
  rw [List.length_map, List.length_range]
theorem cap_bd (ss : List SR) (ms : List MR) (k : Int) : 0 ≤ cap (ways ss ms k) ∧ cap (ways ss ms k) ≤ 2 := by
  have := ways_nn ss ms k
  unfold cap
  omega
abbrev capW (ss : List SR) (ms : List MR) (k : Int) : Int := cap (ways ss ms k)
theorem map_take_succ {α : Type} {f : α → Int} {l : List α} {i : Nat} {a : α} (h : l[i]? = some a) : ((l.take (i + 1)).map f).sum = ((l.take i).map f).sum + f a := by
  rw [take_snoc h, List.map_append, List.sum_append]
  simp
theorem div_bd {n v : Int} (hn : 0 ≤ n) (hv : 1 ≤ v) : 0 ≤ n / v ∧ n / v ≤ n ∧ 0 ≤ n - n / v * v ∧ n - n / v * v < v ∧ 0 ≤ n / v * v := by
  have h1 := Int.mul_ediv_add_emod n v
  have h2 := Int.emod_nonneg n (b := v) (by omega)
  have h3 := Int.emod_lt_of_pos n (b := v) (by omega)
  have h4 : 0 ≤ n / v := Int.ediv_nonneg hn (by omega)
  have e : n / v * v = v * (n / v) := Int.mul_comm _ _
  have h5 : 1 * (n / v) ≤ v * (n / v) := Int.mul_le_mul_of_nonneg_right hv h4
  omega
theorem fit_eq {m : MR} {n : Int} {b : Bool} (h : b = okC m.c (n / m.v)) : (decide (1 ≤ n / m.v) && (decide (n - n / m.v * m.v ≤ m.r) && b)) = fitM m n := by
  subst h
  unfold fitM
  have : decide (1 ≤ n / m.v) = decide (0 < n / m.v) := by
    congr 1
  rw [this]
theorem term_is {W : Int → Int} {m : MR} {n a b : Int} (hf : fitM m n = true) (ha : headW W m (n / m.v) = a) (hb : tailW W (n - n / m.v * m.v) = b) : term W n m = a * b := by
  unfold term
  rw [if_pos hf, ha, hb]
theorem term_not {W : Int → Int} {m : MR} {n : Int} (hf : fitM m n = false) : term W n m = 0 := by
  unfold term
  rw [if_neg (by rw [hf]; decide)]
theorem headW_1 {W : Int → Int} {m : MR} {g : Int} (h : (m.u && decide (g = 1)) = true) : headW W m g = 1 := by unfold headW; rw [if_pos h]
theorem headW_W {W : Int → Int} {m : MR} {g : Int} (h : (m.u && decide (g = 1)) = false) : headW W m g = W g := by unfold headW; rw [if_neg (by rw [h]; decide)]
theorem tailW_1 {W : Int → Int} {r : Int} (h : r = 0) : tailW W r = 1 := by unfold tailW; rw [if_pos h]
theorem tailW_W {W : Int → Int} {r : Int} (h : ¬ r = 0) : tailW W r = W r := by unfold tailW; rw [if_neg h]
theorem cntS_snoc {ss : List SR} {i : Nat} {s : SR} (h : ss[i]? = some s) (n : Int) : cntS (ss.take (i + 1)) n = cntS (ss.take i) n + if s.v = n then 1 else 0 := by
  unfold cntS
  rw [take_snoc h, List.filter_append, List.length_append]
  by_cases e : s.v = n
  · simp [e]
  · simp [e]
/-- a step: a pair of a word and a count -/
def StepR (K : PySem.W.Frag) (H : Hp) (x : V) (s : Str × Int) : Prop := ∃ a, x = .ref a ∧ SqT K H a [.str s.1, .int s.2]
theorem Steps.keep {K : PySem.W.Frag} {m : List Addr} {H H' : Hp} {xs : List V} {ds : List (Str × Int)} (k : Keep m H H') (h : Al (StepR K H) xs ds) : Al (StepR K H') xs ds :=
  h.imp fun _ _ ⟨a, e, s⟩ => ⟨a, e, k.sqT s⟩
theorem endl_mem {ms : List MR} {m : MR} (h : endl ms = some m) : m ∈ ms := List.mem_of_find?_eq_some h
theorem edge_bd {ss : List SR} {ms : List MR} (wf : Wf ss ms) : 0 ≤ edgeN ss ms ∧ edgeN ss ms ≤ 200000 := by
  have b0 := bnd_nn ss ms
  have b1 := bnd_le wf
  unfold edgeN
  cases h : endl ms with
  | none => dsimp only; omega
  | some m =>
    have := wf.mo m (endl_mem h)
    have h1 := this.2.1
    have h2 := this.2.2.1
    dsimp only
    omega
theorem reach_le {ss : List SR} {ms : List MR} (wf : Wf ss ms) {c r : Int} {x : Str × Int} (e : reach ss ms c x = some r) : r ≤ c + 100001 := by
  unfold reach at e
  split at e
  · rename_i v hv
    split at e
    · unfold reachS at e
      split at e
      · injection e with e; omega
      · cases e
    · cases e
  · split at e
    · cases e
    · rename_i m hm
      have := wf.mo m (lookM_mem hm).1
      obtain ⟨_, hv1, hv2, hcc, hr0, hr1⟩ := this
      unfold reachM at e
      split at e
      · cases e
      · rename_i hn
        injection e with e
        simp only [Bool.or_eq_true, Bool.not_eq_true', decide_eq_true_eq, not_or, Bool.not_eq_false] at hn
        omega
/-! ### first_double, bound, Cover -/
theorem dec_not (a b : Int) : (!decide (a ≤ b)) = decide (b < a) := by rw [← decide_not]; congr 1; apply propext; omega
def spBound (K : PySem.W.Frag) (Cs : Addr) : Sp := fun vs H Q _ => ∃ (s : Addr) (av : List Addr) (ss : List SR) (ms : List MR), vs = [.ref s] ∧ SysAt K Cs av H s ss ms ∧ Wf ss ms ∧
  ∀ H', Keep [] H H' → Q (.int (edgeN ss ms)) H'
def covF (s : Addr) (c : Int) : List (Str × V) := [("system", .ref s), ("covered", .int c)]
def spCovInit (C : Addr) : Sp := fun vs H Q _ => ∃ (o s dx : Addr), vs = [.ref o, .ref s] ∧ H o = some (.ins C dx []) ∧ ∀ H', Keep [o] H H' → H' o = some (.ins C dx (covF s 0)) → Q .non H'
def spSReach (C : Addr) : Sp := fun vs H Q _ => ∃ (o s dx : Addr) (c v : Int), vs = [.ref o, .int v] ∧ H o = some (.ins C dx (covF s c)) ∧ Q (vO (reachS v c)) H
def spIsCnt (K : PySem.W.Frag) (C : Addr) : Sp := fun vs H Q _ => ∃ (o s dx r : Addr) (c t : Int) (m : MR), vs = [.ref o, .ref r, .int t] ∧ H o = some (.ins C dx (covF s c)) ∧ SqT K H r (mV m) ∧ Q (.bl (isCnt m c t)) H
def spReachM (K : PySem.W.Frag) (C : Addr) : Sp := fun vs H Q _ => ∃ (o s dx r : Addr) (c t : Int) (m : MR), vs = [.ref o, .ref r, .int t] ∧ H o = some (.ins C dx (covF s c)) ∧ SqT K H r (mV m) ∧ MOk m ∧ Q (vO (reachM m c t)) H
def spStepReach (K : PySem.W.Frag) (Cs C : Addr) : Sp := fun vs H Q _ => ∃ (o s dx : Addr) (c t : Int) (x : Str) (av : List Addr) (ss : List SR) (ms : List MR), vs = [.ref o, .str x, .int t] ∧ H o = some (.ins C dx (covF s c)) ∧ SysAt K Cs av H s ss ms ∧ Wf ss ms ∧
  Q (vO (reach ss ms c (x, t))) H
def spTakeC (K : PySem.W.Frag) (Cs C : Addr) : Sp := fun vs H Q _ => ∃ (o s dx p : Addr) (c r : Int) (x : Str × Int) (av : List Addr) (ss : List SR) (ms : List MR), vs = [.ref o, .ref p] ∧ H o = some (.ins C dx (covF s c)) ∧ SqT K H p [.str x.1, .int x.2] ∧ SysAt K Cs av H s ss ms ∧ Wf ss ms ∧
  reach ss ms c x = some r ∧ ∀ H', Keep [o] H H' → H' o = some (.ins C dx (covF s (max c r))) → Q .non H'
section
variable {P : Program} {w : World} {K : PySem.W.Frag} {mg : Str → Option Value} {base : Heap}
theorem c_bound (T : Txt K mg) : Cal P w K mg base CX0 "bound" 2 ["system"] (spBound K T.C_System) := by
  refine T.d_bound.ok sc_bound (fun vs H Q E h => ?_) (fun f cdv A outer s H vs Q E hr h => ?_)
  · obtain ⟨s, av, ss, ms, rfl, _⟩ := h
    rfl
  · obtain ⟨s, av, ss, ms, rfl, S, wf, k⟩ := h
    refine ⟨_, (pss_cons (ps_set (i := 1) sc_bound.nd rfl (Or.inl rfl) (pe_met0 (pv 0) T.cl_System (c_System_bounded_maximum T) hr (by omega) pass0))
      (pss_cons (ps_set (i := 2) sc_bound.nd rfl (Or.inl rfl) (pe_met0 (pv 0) T.cl_System (c_System_endless T) hr (by omega) pass0))
      (pss_one (ps_ret (pe_ifExp (pt_cmpR o_isN (pv 2) pe_non (nomark _)) (pe_op (k_add K rfl) (pv 1) pe_int) (pe_op (k_add K rfl) (pe_callB (k_max K rfl rfl) rfl T.b_max (by decide +kernel) (pa_cons (pv 1) (pa_cons (pe_ix (k_ix K rfl hr) (pv 2) pe_int (fun _ _ => rfl)) pa_nil))) (pe_ix (k_ix K rfl hr) (pv 2) pe_int (fun _ _ => rfl)))))))), ?_⟩
    refine i_st (σ' := [some _, none, none]) rfl ?_
    walk_at "go"
    obtain ⟨dx', a, b, d, e, xs, ys, kvs, h1, h2, h3, h4, h5, h6, h7, h8, h9⟩ := S.at_
    refine i_methv h1 (by walk_at "nolk") ?_
    walk_at "go"
    refine ⟨s, _, ss, ms, rfl, S, wf, fun H1 k1 => ?_⟩
    have S1 := S.keep k1 (by simp)
    walk_at "go"
    have h1' : H1 s = some _ := k1.at h1 (by simp)
    refine i_methv h1' (by walk_at "nolk") ?_
    walk_at "go"
    refine ⟨s, _, ss, ms, rfl, S1, ?_⟩
    have z := k H1 k1
    unfold edgeN at z
    cases he : endl ms with
    | none =>
      rw [he] at z
      dsimp only at z ⊢
      walk_at "go"
      exact z
    | some m =>
      rw [he] at z
      intro r hr'
      walk_at "go"
      exact z
theorem c_Cover_init (T : Txt K mg) : Mak P w K mg base CX0 "Cover" T.C_Cover 1 ["self", "system"] (spCovInit T.C_Cover) := by
  refine T.d_Cover_init.ok sc_Cover_init (fun vs H Q E h => ?_) (fun f cdv A outer s H vs Q E hr h => ?_)
  · obtain ⟨o, s, dx, rfl, _⟩ := h
    rfl
  · obtain ⟨o, s, dx, rfl, ho, k⟩ := h
    refine ⟨_, (pss_cons (k_sfld K rfl (pv 0) (pv 1) rfl)
      (pss_one (k_sfld K rfl (pv 0) pe_int rfl))), ?_⟩
    refine i_st (σ' := [some _, some _]) rfl ?_
    have cl := T.cl_Cover
    have n1 := T.n_Cover_system
    have n2 := T.n_Cover_covered
    walk_at "go"
    refine i_sfldv ho cl n1 (by simp) (by walk_at "pf") fun H1 k1 e1 => ?_
    walk_at "go"
    refine i_sfldv e1 cl n2 (by simp) (by walk_at "pf") fun H2 k2 e2 => ?_
    exact k H2 (k1.trans k2) e2
theorem c_Cover_simple_reach (T : Txt K mg) : Met P w K mg base CX0 T.C_Cover "simple_reach" 1 ["self", "value"] (spSReach T.C_Cover) := by
  refine T.d_Cover_simple_reach.ok sc_Cover_simple_reach (fun vs H Q E h => ?_) (fun f cdv A outer s H vs Q E hr h => ?_)
  · obtain ⟨o, s, dx, c, v, rfl, _⟩ := h
    rfl
  · obtain ⟨o, s, dx, c, v, rfl, ho, k⟩ := h
    refine ⟨_, (pss_one (ps_ret (pe_ifExp (pt_cmpR (o_le) (pv 1) (pe_op (k_add K rfl) (k_fld K rfl (pv 0) rfl) pe_int) (nomark _)) (pv 1) pe_non))), ?_⟩
    refine i_st (σ' := [some _, some _]) rfl ?_
    have cl := T.cl_Cover
    have n2 := T.n_Cover_covered
    unfold covF at ho
    unfold reachS at k
    walk_at "go"
    refine i_ite (fun h => ?_) fun h => ?_
    · walk_at "go"
      rw [if_pos h] at k
      exact k
    · walk_at "go"
      rw [if_neg h] at k
      exact k
theorem c_Cover_is_count (T : Txt K mg) : Met P w K mg base CX0 T.C_Cover "is_count" 1 ["self", "row", "times"] (spIsCnt K T.C_Cover) := by
  refine T.d_Cover_is_count.ok sc_Cover_is_count (fun vs H Q E h => ?_) (fun f cdv A outer s H vs Q E hr h => ?_)
  · obtain ⟨o, s, dx, r, c, t, m, rfl, _⟩ := h
    rfl
  · obtain ⟨o, s, dx, r, c, t, m, rfl, ho, hr', k⟩ := h
    refine ⟨_, (pss_cons (ps_asg (pv 1) (k_un (n := 5) K rfl rfl (pgs_cons (pg_name (i := 3) sc_Cover_is_count.nd rfl (Or.inl rfl)) (pgs_cons (pg_name (i := 3) sc_Cover_is_count.nd rfl (Or.inl rfl)) (pgs_cons (pg_name (i := 4) sc_Cover_is_count.nd rfl (Or.inl rfl)) (pgs_cons (pg_name (i := 5) sc_Cover_is_count.nd rfl (Or.inl rfl)) (pgs_cons (pg_name (i := 3) sc_Cover_is_count.nd rfl (Or.inl rfl)) pgs_nil)))))))
      (pss_cons (ps_if (PW.pt (pw_or (pt_cmpR (o_lt) (pv 2) pe_int (nomark _)) (pw_or1 (PW.pt (pw_and (pt_cmpR o_notN (pv 4) pe_non (nomark _)) (pw_and1 (pt_cmpR (o_gt) (pv 2) (pv 4) (nomark _)))))))) (pss_one (ps_ret pe_bl)) pss_nil)
      (pss_one (ps_ret (pe_or (pe_cmpR (o_le) (pv 2) (k_fld K rfl (pv 0) rfl) (nomark _)) (pe_one (pe_and (pe_cmpR (k_eq K rfl hr) (pv 2) pe_int (nomark _)) (pe_one (pv 5))))))))), ?_⟩
    refine i_st (σ' := [some _, some _, some _, none, none, none]) rfl ?_
    have cl := T.cl_Cover
    have n2 := T.n_Cover_covered
    unfold covF at ho
    unfold mV at hr'
    unfold isCnt at k
    rcases hc : m.c with _ | c0
    all_goals
      rw [hc] at hr' k
      walk_at "go"
      refine i_iteE (c := decide (t < 1) || !okC m.c t) (by rw [hc]; simp [okC, dec_not]) (fun hh => ?_) fun hh => ?_
      · walk_at "go"
        rw [hc] at hh
        rw [if_pos hh] at k
        exact k
      · rw [hc] at hh
        rw [if_neg (by rw [hh]; decide)] at k
        walk_at "go"
        exact k
theorem c_Cover_reach (T : Txt K mg) : Met P w K mg base CX0 T.C_Cover "reach" 2 ["self", "row", "times"] (spReachM K T.C_Cover) := by
  refine T.d_Cover_reach.ok sc_Cover_reach (fun vs H Q E h => ?_) (fun f cdv A outer s H vs Q E hr h => ?_)
  · obtain ⟨o, s, dx, r, c, t, m, rfl, _⟩ := h
    rfl
  · obtain ⟨o, s, dx, r, c, t, m, rfl, ho, hr', ⟨_, hv1, hv2, hcc, hr0, hr1⟩, k⟩ := h
    refine ⟨_, (pss_cons (ps_if (PW.pt (pw_or (pt_not (k_tr K rfl (pe_met (pv 0) T.cl_Cover (c_Cover_is_count T) hr (by omega) pass0 (pa_cons (pv 1) (pa_cons (pv 2) pa_nil))))) (pw_or1 (pt_cmpR (o_gt) (pe_op (o_mul) (pv 2) (pe_ix (k_ix K rfl hr) (pv 1) pe_int (fun _ _ => rfl))) (pe_op (k_add K rfl) (k_fld K rfl (pv 0) rfl) pe_int) (nomark _))))) (pss_one (ps_ret pe_non)) pss_nil)
      (pss_one (ps_ret (pe_op (k_add K rfl) (pe_op (o_mul) (pv 2) (pe_ix (k_ix K rfl hr) (pv 1) pe_int (fun _ _ => rfl))) (pe_callB (k_min K rfl rfl) rfl T.b_min (by decide +kernel) (pa_cons (k_fld K rfl (pv 0) rfl) (pa_cons (pe_ix (k_ix K rfl hr) (pv 1) pe_int (fun _ _ => rfl)) pa_nil))))))), ?_⟩
    refine i_st (σ' := [some _, some _, some _]) rfl ?_
    have cl := T.cl_Cover
    have n2 := T.n_Cover_covered
    have ho' := ho
    have hr'' := hr'
    unfold covF at ho
    unfold mV at hr'
    unfold reachM at k
    walk_at "go"
    refine i_methv ho (by walk_at "nolk") ?_
    walk_at "go"
    refine ⟨o, s, dx, r, c, t, m, rfl, ho', hr'', ?_⟩
    walk_at "go"
    refine i_iteB (fun h1 => ?_) fun h1 => ?_
    · walk_at "go"
      rw [h1] at k
      exact k
    · rw [h1] at k
      walk_at "go"
      refine i_ite (fun h2 => ?_) fun h2 => ?_
      · walk_at "go"
        rw [if_pos (by simpa using h2)] at k
        exact k
      · walk_at "go"
        rw [if_neg (by simpa using h2)] at k
        exact k
theorem c_Cover_step_reach (T : Txt K mg) : Met P w K mg base CX0 T.C_Cover "step_reach" 3 ["self", "word", "times"] (spStepReach K T.C_System T.C_Cover) := by
  refine T.d_Cover_step_reach.ok sc_Cover_step_reach (fun vs H Q E h => ?_) (fun f cdv A outer s H vs Q E hr h => ?_)
  · obtain ⟨o, s, dx, c, t, x, av, ss, ms, rfl, _⟩ := h
    rfl
  · obtain ⟨o, s, dx, c, t, x, av, ss, ms, rfl, ho, S, wf, k⟩ := h
    refine ⟨_, (pss_cons (ps_set (i := 3) sc_Cover_step_reach.nd rfl (Or.inl rfl) (pe_met (k_fld K rfl (pv 0) rfl) T.cl_System (c_System_simple_value T) hr (by omega) pass0 (pa_cons (pv 1) pa_nil)))
      (pss_cons (ps_if (pt_cmpR o_notN (pv 3) pe_non (nomark _)) (pss_one (ps_ret (pe_ifExp (pt_cmpR (k_eq K rfl hr) (pv 2) pe_int (nomark _)) (pe_met (pv 0) T.cl_Cover (c_Cover_simple_reach T) hr (by omega) pass0 (pa_cons (pv 3) pa_nil)) pe_non))) pss_nil)
      (pss_cons (ps_set (i := 4) sc_Cover_step_reach.nd rfl (Or.inl rfl) (pe_met (k_fld K rfl (pv 0) rfl) T.cl_System (c_System_multiplier T) hr (by omega) pass0 (pa_cons (pv 1) pa_nil)))
      (pss_one (ps_ret (pe_ifExp (pt_cmpR o_isN (pv 4) pe_non (nomark _)) pe_non (pe_met (pv 0) T.cl_Cover (c_Cover_reach T) hr (by omega) pass0 (pa_cons (pv 4) (pa_cons (pv 2) pa_nil))))))))), ?_⟩
    refine i_st (σ' := [some _, some _, some _, none, none]) rfl ?_
    have cl := T.cl_Cover
    have n1 := T.n_Cover_system
    have ho' := ho
    unfold covF at ho
    obtain ⟨dx', a, b, d, e, xs, ys, kvs, h1, h2, h3, h4, h5, h6, h7, h8, h9⟩ := S.at_
    walk_at "go"
    refine i_methv h1 (by walk_at "nolk") ?_
    walk_at "go"
    refine ⟨s, av, ss, ms, x, rfl, S, ?_⟩
    unfold reach at k
    cases hs : lookS ss x with
    | some v =>
      rw [hs] at k
      dsimp only at k
      walk_at "go"
      refine i_ite (fun h0 => ?_) fun h0 => ?_
      · walk_at "go"
        refine i_methv ho (by walk_at "nolk") ?_
        walk_at "go"
        refine ⟨o, s, dx, c, v, rfl, ho', ?_⟩
        rw [if_pos h0] at k
        exact k
      · walk_at "go"
        rw [if_neg h0] at k
        exact k
    | none =>
      rw [hs] at k
      dsimp only at k
      walk_at "go"
      refine i_methv h1 (by walk_at "nolk") ?_
      walk_at "go"
      refine ⟨s, av, ss, ms, x, rfl, S, ?_⟩
      cases hm : lookM ms x with
      | none =>
        rw [hm] at k
        dsimp only at k ⊢
        walk_at "go"
        exact k
      | some m =>
        rw [hm] at k
        intro r hr'
        walk_at "go"
        refine i_methv ho (by walk_at "nolk") ?_
        walk_at "go"
        exact ⟨o, s, dx, r, c, t, m, rfl, ho', hr', wf.mo m (lookM_mem hm).1, k⟩
theorem c_Cover_take (T : Txt K mg) : Met P w K mg base CX0 T.C_Cover "take" 4 ["self", "step"] (spTakeC K T.C_System T.C_Cover) := by
  refine T.d_Cover_take.ok sc_Cover_take (fun vs H Q E h => ?_) (fun f cdv A outer s H vs Q E hr h => ?_)
  · obtain ⟨o, s, dx, p, c, r, x, av, ss, ms, rfl, _⟩ := h
    rfl
  · obtain ⟨o, s, dx, p, c, r, x, av, ss, ms, rfl, ho, hp, S, wf, hR, k⟩ := h
    refine ⟨_, (pss_one (k_sfld K rfl (pv 0) (pe_callB (k_max K rfl rfl) rfl T.b_max (by decide +kernel) (pa_cons (k_fld K rfl (pv 0) rfl) (pa_cons (pe_met (pv 0) T.cl_Cover (c_Cover_step_reach T) hr (by omega) pass0 (pa_cons (pe_ix (k_ix K rfl hr) (pv 1) pe_int (fun _ _ => rfl)) (pa_cons (pe_ix (k_ix K rfl hr) (pv 1) pe_int (fun _ _ => rfl)) pa_nil))) pa_nil))) rfl)), ?_⟩
    refine i_st (σ' := [some _, some _]) rfl ?_
    have cl := T.cl_Cover
    have n2 := T.n_Cover_covered
    have ho' := ho
    unfold covF at ho
    walk_at "go"
    refine i_methv ho (by walk_at "nolk") ?_
    walk_at "go"
    refine ⟨o, s, dx, c, x.2, x.1, av, ss, ms, rfl, ho', S, wf, ?_⟩
    rw [show reach ss ms c (x.1, x.2) = some r from hR]
    walk_at "go"
    exact i_sfldv ho cl n2 (by simp) (by walk_at "pf") fun H1 k1 e1 => k H1 k1 e1
end
local macro_rules | `(tactic| walk_at "tr1") => `(tactic| (refine Steps.keep (by assumption) ?_; walk_at "tr"))
def spSteps (K : PySem.W.Frag) (Cs C : Addr) : Sp := fun vs H Q _ => ∃ (o s dx : Addr) (c : Int) (av : List Addr) (ss : List SR) (ms : List MR), vs = [.ref o] ∧ H o = some (.ins C dx (covF s c)) ∧ SysAt K Cs av H s ss ms ∧ Wf ss ms ∧ 0 ≤ c ∧ c ≤ 1000000 ∧
  ∀ l xs H', H l = none → Keep [] H H' → H' l = some (.lst xs) → Al (StepR K H') xs (stepsOf ss ms c) → Q (.ref l) H'
def spBest (K : PySem.W.Frag) (Cs C : Addr) : Sp := fun vs H Q _ => ∃ (o s dx : Addr) (c : Int) (av : List Addr) (ss : List SR) (ms : List MR), vs = [.ref o] ∧ H o = some (.ins C dx (covF s c)) ∧ SysAt K Cs av H s ss ms ∧ Wf ss ms ∧ 0 ≤ c ∧ c ≤ 1000000 ∧
  ∀ v H', Keep [] H H' → (match (best ss ms c).1 with | none => v = .non | some x => StepR K H' v x) → Q v H'
def spCovering (K : PySem.W.Frag) (Cs : Addr) : Sp := fun vs H Q _ => ∃ (s : Addr) (av : List Addr) (ss : List SR) (ms : List MR), vs = [.ref s] ∧ SysAt K Cs av H s ss ms ∧ Wf ss ms ∧
  ∀ p l xs H', Keep [] H H' → SqT K H' p [.ref l, .int (coverF ss ms (edgeN ss ms) (edgeN ss ms).toNat 0).2] → H' l = some (.lst xs) → Al (StepR K H') xs (coverF ss ms (edgeN ss ms) (edgeN ss ms).toNat 0).1 → Q (.ref p) H'
def spGap (K : PySem.W.Frag) (Cs : Addr) : Sp := fun vs H Q _ => ∃ (s : Addr) (av : List Addr) (ss : List SR) (ms : List MR), vs = [.ref s] ∧ SysAt K Cs av H s ss ms ∧ Wf ss ms ∧
  ∀ H', Keep [] H H' → Q (vO (gapOf ss ms (edgeN ss ms))) H'
section
variable {P : Program} {w : World} {K : PySem.W.Frag} {mg : Str → Option Value} {base : Heap}
theorem c_Cover_steps (T : Txt K mg) : Met P w K mg base CX0 T.C_Cover "steps" 1 ["self"] (spSteps K T.C_System T.C_Cover) := by
  refine T.d_Cover_steps.ok sc_Cover_steps (fun vs H Q E h => ?_) (fun f cdv A outer s H vs Q E hr h => ?_)
  · obtain ⟨o, s, dx, c, av, ss, ms, rfl, _⟩ := h
    rfl
  · obtain ⟨o, s, dx, c, av, ss, ms, rfl, ho, S, wf, hc0, hc1, k⟩ := h
    refine ⟨_, (pss_cons (ps_setLc (i := 1) (own := [("word", 2), ("_", 3)]) (g := (gUn K 2 (gCons (gName 2) (gCons (gName 3) gNil)))) (tt := tYes) rfl sc_Cover_steps.nd rfl rfl (sw_true rfl rfl rfl (by decide +kernel)) (k_sq K rfl (k_fld K rfl (k_fld K rfl (pv 0) rfl) rfl)) (blkOk_by (N := ["self", "found", "word", "_", "value", "most", "is_unsaid", "times"]) (sc := defScope s_Cover_steps) (by decide +kernel)) (fun _ _ _ _ _ => (k_un (n := 2) K rfl rfl (pgs_cons (pg_name (i := 2) sc_Cover_steps.nd rfl (Or.inl rfl)) (pgs_cons (pg_name (i := 3) sc_Cover_steps.nd rfl (Or.inl rfl)) pgs_nil)))) (fun _ _ _ _ _ => pts_nil) (fun _ _ _ _ _ => (pe_tup (pa_cons (pv 2) (pa_cons pe_int pa_nil)))))
      (pss_cons (ps_for PassesOwn.never rfl (k_sq K rfl (k_fld K rfl (k_fld K rfl (pv 0) rfl) rfl)) (k_un (n := 5) K rfl rfl (pgs_cons (pg_name (i := 2) sc_Cover_steps.nd rfl (Or.inl rfl)) (pgs_cons (pg_name (i := 4) sc_Cover_steps.nd rfl (Or.inl rfl)) (pgs_cons (pg_name (i := 5) sc_Cover_steps.nd rfl (Or.inl rfl)) (pgs_cons (pg_name (i := 6) sc_Cover_steps.nd rfl (Or.inl rfl)) (pgs_cons (pg_name (i := 3) sc_Cover_steps.nd rfl (Or.inl rfl)) pgs_nil)))))) (pss_cons (ps_set (i := 7) sc_Cover_steps.nd rfl (Or.inl rfl) (pe_callB (k_min K rfl rfl) rfl T.b_min (by decide +kernel) (pa_cons (k_fld K rfl (pv 0) rfl) (pa_cons (pe_op (o_div) (pe_op (k_add K rfl) (k_fld K rfl (pv 0) rfl) pe_int) (pv 4)) pa_nil))))
      (pss_cons (ps_if (pt_cmpR o_notN (pv 5) pe_non (nomark _)) (pss_one (ps_set (i := 7) sc_Cover_steps.nd rfl (Or.inl rfl) (pe_callB (k_min K rfl rfl) rfl T.b_min (by decide +kernel) (pa_cons (pv 7) (pa_cons (pv 5) pa_nil))))) pss_nil)
      (pss_one (ps_expr (k_bm K rfl PySem.F.plainAttrs_list PySem.F.slot_list_append PySem.F.type_list_append mt_append (pv 1) (pa_cons (pe_tup (pa_cons (pv 2) (pa_cons (pe_ifExp (PW.pt (pw_and (pt_cmpR (k_eq K rfl hr) (pv 7) pe_int (nomark _)) (pw_and1 (k_tr K rfl (pv 6))))) pe_int (pv 7)) pa_nil))) pa_nil)))))))
      (pss_one (ps_ret (pv 1))))), ?_⟩
    refine i_st (σ' := [some _, none, none, none, none, none, none, none]) rfl ?_
    have cl := T.cl_Cover
    have cl2 := T.cl_System
    have n1 := T.n_Cover_system
    have n2 := T.n_Cover_covered
    have n3 := T.n_System_simple
    have n4 := T.n_System_multipliers
    unfold covF at ho
    obtain ⟨dx', a, b, d, e, xs, ys, kvs, h1, h2, h3, h4, h5, h6, h7, h8, h9⟩ := S.at_
    have wsl := wf.sl
    have wml := wf.ml
    have lx := h3.len
    have ly := h5.len
    walk_at "go"
    refine i_lcW (walk_tup (xs := xs)) (fun D j acc H' => Keep [] H H' ∧ Al (StepR K H') acc ((ss.take j).map fun s => (s.w, 0))) (by walk_at "st") ?_ ?_ ?_ ?_
    · exact fun D H' _ kp _ => ⟨kp, .nil⟩
    · exact fun D j acc H' _ _ _ f => f.1.sqT h2
    · rintro D j x acc H10 H11 hj hD eD lD ⟨kD, rD⟩ ⟨rfl, hx⟩
      obtain ⟨s', hs, ⟨r, rfl, hr'⟩⟩ := h3.get hx
      have hr2 : SqT K H11 r _ := kD.sqT hr'
      walk_at "go"
      refine ⟨rfl, ?_⟩
      walk_at "go"
      rename_i p H12 hp k12 e12
      refine i_lcY (k12.at eD (by simp)) lD (by omega) fun H13 k13 e13 => ⟨(by walk_at "kp" : Keep [D] H H13).cut hD, ?_⟩
      rw [take_snoc hs, List.map_append]
      exact (Steps.keep k13 (Steps.keep k12 rD)).snoc ⟨p, rfl, SqT.of (k13.atT e12)⟩
    · rintro D acc H2 hD eD lD ⟨k2, r2⟩
      rw [lx, List.take_length] at r2
      rw [lx] at lD
      have ho2 : H2 o = some _ := k2.at ho (by simp)
      have h12 : H2 s = some _ := k2.at h1 (by simp)
      walk_at "go"
      refine i_forW (walk_tup (xs := ys)) (fun i σ H' => ∃ o2 o3 o4 o5 o6 o7 acc, σ = [some (.ref o), some (.ref D), o2, o3, o4, o5, o6, o7] ∧ Keep [D] H2 H' ∧ H' D = some (.lst acc) ∧ acc.length ≤ ss.length + i ∧
        Al (StepR K H') acc (ss.map (fun s => (s.w, 0)) ++ (ms.take i).map fun m => (m.w, timesOf m c))) ?_ ?_ ?_ ?_
      · exact ⟨_, _, _, _, _, _, acc, rfl, Keep.rfl', eD, lD, by simpa using r2⟩
      · rintro i σ H' hi ⟨o2, o3, o4, o5, o6, o7, acc, rfl, k3, e3, l3, r3⟩
        exact k3.sqT (k2.sqT h4)
      · rintro i x σ H4 H5 hi ⟨o2, o3, o4, o5, o6, o7, acc, rfl, k3, e3, l3, r3⟩ ⟨rfl, hx⟩
        obtain ⟨m, hm, ⟨r, rfl, hr'⟩⟩ := h5.get hx
        obtain ⟨_, hv1, hv2, hcc, hr0, hr1⟩ := wf.mo m (List.mem_of_getElem? hm)
        have hr2 : SqT K H5 r _ := k3.sqT (k2.sqT hr')
        have oD : o ≠ D := fun z => by subst z; rw [eD] at ho2; cases ho2
        have ho5 : H5 o = some _ := k3.at ho2 (by simp [oD])
        rcases hc : m.c with _ | c0
        all_goals
          rw [hc] at hr2
          walk_at "go"
          first
          | rw [timesB_some hc]
          | rw [timesB_none hc]
          refine i_iteB (fun hu => ?_) fun hu => ?_
          · have et : timesOf m c = 1 := by unfold timesOf; exact if_pos hu
            walk_at "go"
            rename_i p H6 hp k6 e6
            refine i_app (k6.at e3 (by simp)) (sz' (by omega)) fun H7 k7 e7 => ?_
            refine ⟨_, _, _, _, _, _, _, rfl, by walk_at "kp", e7, by simp; omega, ?_⟩
            rw [take_snoc hm, List.map_append, ← List.append_assoc]
            exact (Steps.keep k7 (Steps.keep k6 r3)).snoc ⟨p, rfl, SqT.of (by show H7 p = some (.tup [.str m.w, .int (timesOf m c)]); rw [et]; exact k7.atT e6)⟩
          · have et : timesOf m c = timesB m c := by unfold timesOf; exact if_neg (by rw [hu]; decide)
            walk_at "go"
            rename_i p H6 hp k6 e6
            refine i_app (k6.at e3 (by simp)) (sz' (by omega)) fun H7 k7 e7 => ?_
            refine ⟨_, _, _, _, _, _, _, rfl, by walk_at "kp", e7, by simp; omega, ?_⟩
            rw [take_snoc hm, List.map_append, ← List.append_assoc]
            exact (Steps.keep k7 (Steps.keep k6 r3)).snoc ⟨p, rfl, SqT.of (by show H7 p = some (.tup [.str m.w, .int (timesOf m c)]); rw [et]; exact k7.atT e6)⟩
      · rintro σ H4 ⟨o2, o3, o4, o5, o6, o7, acc, rfl, k3, e3, l3, r3⟩
        rw [ly, List.take_length] at r3
        walk_at "go"
        exact k D acc H4 hD ((by walk_at "kp" : Keep [D] H H4).cut hD) e3 r3
theorem c_Cover_best (T : Txt K mg) : Met P w K mg base CX0 T.C_Cover "best" 4 ["self"] (spBest K T.C_System T.C_Cover) := by
  refine T.d_Cover_best.ok sc_Cover_best (fun vs H Q E h => ?_) (fun f cdv A outer s H vs Q E hr h => ?_)
  · obtain ⟨o, s, dx, c, av, ss, ms, rfl, _⟩ := h
    rfl
  · obtain ⟨o, s, dx, c, av, ss, ms, rfl, ho, S, wf, hc0, hc1, k⟩ := h
    refine ⟨_, (pss_cons (ps_set (i := 1) sc_Cover_best.nd rfl (Or.inl rfl) pe_non)
      (pss_cons (ps_set (i := 2) sc_Cover_best.nd rfl (Or.inl rfl) (k_fld K rfl (pv 0) rfl))
      (pss_cons (ps_for PassesOwn.never rfl (k_sq K rfl (pe_met0 (pv 0) T.cl_Cover (c_Cover_steps T) hr (by omega) pass0)) (k_un (n := 2) K rfl rfl (pgs_cons (pg_name (i := 3) sc_Cover_best.nd rfl (Or.inl rfl)) (pgs_cons (pg_name (i := 4) sc_Cover_best.nd rfl (Or.inl rfl)) pgs_nil))) (pss_cons (ps_set (i := 5) sc_Cover_best.nd rfl (Or.inl rfl) (pe_met (pv 0) T.cl_Cover (c_Cover_step_reach T) hr (by omega) pass0 (pa_cons (pv 3) (pa_cons (pv 4) pa_nil))))
      (pss_one (ps_if (PW.pt (pw_and (pt_cmpR o_notN (pv 5) pe_non (nomark _)) (pw_and1 (pt_cmpR (o_gt) (pv 5) (pv 2) (nomark _))))) (pss_cons (ps_set (i := 1) sc_Cover_best.nd rfl (Or.inl rfl) (pe_tup (pa_cons (pv 3) (pa_cons (pv 4) pa_nil))))
      (pss_one (ps_set (i := 2) sc_Cover_best.nd rfl (Or.inl rfl) (pv 5)))) pss_nil))))
      (pss_one (ps_ret (pv 1)))))), ?_⟩
    refine i_st (σ' := [some _, none, none, none, none, none]) rfl ?_
    have cl := T.cl_Cover
    have n2 := T.n_Cover_covered
    have ho' := ho
    unfold covF at ho
    walk_at "go"
    refine i_methv ho (by walk_at "nolk") ?_
    walk_at "go"
    refine ⟨o, s, dx, c, av, ss, ms, rfl, ho', S, wf, hc0, hc1, fun l xs H1 hl k1 e1 r1 => ?_⟩
    have hl1 : SqL K H1 l xs := SqL.of e1
    walk_at "go"
    refine i_forW (walk_list (xs := xs)) (fun i σ H' => ∃ v o3 o4 o5, σ = [some (.ref o), some v, some (.int (((stepsOf ss ms c).take i).foldl (bestStep (reach ss ms c)) (none, c)).2), o3, o4, o5] ∧ Keep [] H1 H' ∧
      (match (((stepsOf ss ms c).take i).foldl (bestStep (reach ss ms c)) (none, c)).1 with | none => v = .non | some x => StepR K H' v x)) ?_ ?_ ?_ ?_
    · exact ⟨_, _, _, _, rfl, Keep.rfl', rfl⟩
    · rintro i σ H' hi ⟨v, o3, o4, o5, rfl, k2, f2⟩
      exact k2.sqL hl1 (by simp)
    · rintro i x σ H2 H3 hi ⟨v, o3, o4, o5, rfl, k2, f2⟩ ⟨rfl, hx⟩
      obtain ⟨st, hst, ⟨p, rfl, hp⟩⟩ := r1.get hx
      have hp2 : SqT K H3 p _ := k2.sqT hp
      have ho3 : H3 o = some _ := k2.at (k1.at ho' (by simp)) (by simp)
      have S3 := (S.keep k1 (by simp)).keep k2 (by simp)
      rw [take_snoc hst, List.foldl_append]
      generalize ((stepsOf ss ms c).take i).foldl (bestStep (reach ss ms c)) (none, c) = z at f2 ⊢
      walk_at "go"
      refine i_methv ho3 (by walk_at "nolk") ?_
      walk_at "go"
      refine ⟨o, s, dx, c, st.2, st.1, av, ss, ms, rfl, ho3, S3, wf, ?_⟩
      simp only [List.foldl_cons, List.foldl_nil]
      have eb : ∀ q, reach ss ms c (st.1, st.2) = q → bestStep (reach ss ms c) z st = (match q with | some r => if z.2 < r then (some st, r) else z | none => z) := fun q hq => by
        unfold bestStep
        rw [show reach ss ms c st = q from hq]
        (try (cases q <;> rfl))
      cases hR : reach ss ms c (st.1, st.2) with
      | none =>
        rw [eb none hR]
        walk_at "go"
        exact ⟨_, _, _, _, rfl, k2, f2⟩
      | some r =>
        rw [eb (some r) hR]
        walk_at "go"
        refine i_ite (fun h => ?_) fun h => ?_
        · dsimp only
          rw [if_pos h]
          walk_at "go"
          rename_i q H4 hq k4 e4
          walk_at "go"
          exact ⟨_, _, _, _, rfl, k2.trans k4, q, rfl, SqT.of e4⟩
        · dsimp only
          rw [if_neg h]
          walk_at "go"
          exact ⟨_, _, _, _, rfl, k2, f2⟩
    · rintro σ H2 ⟨v, o3, o4, o5, rfl, k2, f2⟩
      rw [r1.len, List.take_length] at f2
      walk_at "go"
      exact k v H2 (k1.trans k2) f2
theorem c_covering (T : Txt K mg) : Cal P w K mg base CX0 "covering" 5 ["system"] (spCovering K T.C_System) := by
  refine T.d_covering.ok sc_covering (fun vs H Q E h => ?_) (fun f cdv A outer s H vs Q E hr h => ?_)
  · obtain ⟨s, av, ss, ms, rfl, _⟩ := h
    rfl
  · obtain ⟨s, av, ss, ms, rfl, S, wf, k⟩ := h
    refine ⟨_, (pss_cons (ps_set (i := 1) sc_covering.nd rfl (Or.inl rfl) (pe_mak (c_Cover_init T) hr (by omega) rfl pass0 (pa_cons (pv 0) pa_nil)))
      (pss_cons (ps_set (i := 2) sc_covering.nd rfl (Or.inl rfl) (pe_cal (c_bound T) hr (by omega) rfl pass0 (pa_cons (pv 0) pa_nil)))
      (pss_cons (ps_set (i := 3) sc_covering.nd rfl (Or.inl rfl) (pe_lst pa_nil))
      (pss_cons (ps_while PassesOwn.never (pt_cmpR (o_lt) (k_fld K rfl (pv 1) rfl) (pv 2) (nomark _)) (pss_cons (ps_set (i := 4) sc_covering.nd rfl (Or.inl rfl) (pe_met0 (pv 1) T.cl_Cover (c_Cover_best T) hr (by omega) pass0))
      (pss_cons (ps_if (pt_cmpR o_isN (pv 4) pe_non (nomark _)) (pss_one ps_break) pss_nil)
      (pss_cons (ps_expr (pe_met (pv 1) T.cl_Cover (c_Cover_take T) hr (by omega) pass0 (pa_cons (pv 4) pa_nil)))
      (pss_one (ps_expr (k_bm K rfl PySem.F.plainAttrs_list PySem.F.slot_list_append PySem.F.type_list_append mt_append (pv 3) (pa_cons (pv 4) pa_nil))))))))
      (pss_one (ps_ret (pe_tup (pa_cons (pv 3) (pa_cons (k_fld K rfl (pv 1) rfl) pa_nil))))))))), ?_⟩
    refine i_st (σ' := [some _, none, none, none, none]) rfl ?_
    have cl := T.cl_Cover
    have n2 := T.n_Cover_covered
    obtain ⟨g0, g1⟩ := edge_bd wf
    walk_at "go"
    refine i_mk fun o dx H1 ho k1 e1 => ?_
    refine ⟨o, s, dx, rfl, e1, fun H2 k2 e2 => ⟨rfl, ?_⟩⟩
    have S2 := ((S.keep k1 (by simp)).addI e1).keep k2 (by simp)
    walk_at "go"
    refine ⟨s, _, ss, ms, rfl, S2, wf, fun H3 k3 => ?_⟩
    walk_at "go"
    refine i_new (sz (by simp)) fun l H4 hl k4 e4 => ?_
    have S4 := ((S2.keep k3 (by simp)).fresh hl).keep k4 (by simp)
    have e4o : H4 o = some (.ins T.C_Cover dx (covF s 0)) := k4.at (k3.at e2 (by simp)) (by simp)
    have lo : l ≠ o := fun z => by subst z; rw [k3.at e2 (by simp)] at hl; cases hl
    walk_at "go"
    refine i_whileW (fun m σ H' => ∃ o4 c pre xs, σ = [some (.ref s), some (.ref o), some (.int (edgeN ss ms)), some (.ref l), o4] ∧ Keep [l, o] H4 H' ∧ H' o = some (.ins T.C_Cover dx (covF s c)) ∧ H' l = some (.lst xs) ∧ Al (StepR K H') xs pre ∧
      0 ≤ c ∧ c ≤ 400000 ∧ (pre.length : Int) ≤ c ∧ edgeN ss ms - c ≤ m ∧ coverF ss ms (edgeN ss ms) (edgeN ss ms).toNat 0 = (pre ++ (coverF ss ms (edgeN ss ms) m c).1, (coverF ss ms (edgeN ss ms) m c).2)) (edgeN ss ms).toNat ?_ ?_
    · exact ⟨_, 0, [], [], rfl, Keep.rfl', e4o, e4, .nil, by omega, by omega, Int.le_refl _, by omega, rfl⟩
    · rintro m σ H5 ⟨o4, c, pre, xs, rfl, k5, e5, el5, r5, c0, c1, lp, hm, hcov⟩
      have e5' := e5
      unfold covF at e5'
      have S5 := S4.keep k5 (by simp)
      have lxs := r5.len
      have fin : ∀ p H7, Keep [] H5 H7 → H7 p = some (.tup [.ref l, .int c]) → coverF ss ms (edgeN ss ms) (edgeN ss ms).toNat 0 = (pre, c) → Q (.ref p) H7 := by
        intro p H7 k7 e7 hz
        have kk : Keep [l, o] H H7 := ((((k1.wid0.trans (k2.wid (by simp))).trans k3.wid0).trans k4.wid0).trans k5).trans k7.wid0
        have hl0 : H l = none := k1.dom _ (k2.dom _ (k3.dom _ hl))
        refine k p l xs H7 ((kk.cut hl0).cut ho) ?_ ?_ ?_
        · rw [hz]; exact SqT.of e7
        · exact k7.at el5 List.not_mem_nil
        · rw [hz]; exact Steps.keep k7 r5
      walk_at "go"
      refine i_ite (fun hlt => ?_) fun hlt => ?_
      · refine i_wh ?_
        have hm1 : ∃ m', m = m' + 1 := ⟨m - 1, by omega⟩
        obtain ⟨m', rfl⟩ := hm1
        walk_at "go"
        refine i_methv e5 (by walk_at "nolk") ?_
        walk_at "go"
        refine ⟨o, s, dx, c, _, ss, ms, rfl, e5, S5, wf, c0, by omega, fun v H6 k6 f6 => ?_⟩
        cases hb : best ss ms c with
        | mk x r =>
        rw [hb] at f6
        cases x with
        | none =>
          rw [coverF_none hlt hb] at hcov
          dsimp only at f6
          subst f6
          have e6' : H6 o = some _ := k6.at e5' List.not_mem_nil
          walk_at "go"
          rename_i p H7 hp k7 e7
          exact fin p H7 (k6.trans k7) e7 (by rw [hcov]; simp)
        | some x =>
          have hb' := best_some (ss := ss) (ms := ms) (c := c) (x := x) (by rw [hb])
          rw [hb] at hb'
          obtain ⟨b1, b2⟩ := hb'
          rw [coverF_some hlt hb] at hcov
          dsimp only at f6 b1 b2
          obtain ⟨p, rfl, hp⟩ := f6
          have e6o : H6 o = some (.ins T.C_Cover dx (covF s c)) := k6.at e5 (by simp)
          have S6 := S5.keep k6 (by simp)
          have rle := reach_le wf b1
          walk_at "go"
          refine i_methv e6o (by walk_at "nolk") ?_
          walk_at "go"
          refine ⟨o, s, dx, p, c, r, x, _, ss, ms, rfl, e6o, hp, S6, wf, b1, fun H7 k7 e7 => ?_⟩
          have el7 : H7 l = some (.lst xs) := k7.at (k6.at el5 (by simp)) (by simp [lo])
          walk_at "go"
          refine i_app el7 (sz' (by omega)) fun H8 k8 e8 => ?_
          refine ⟨m', Nat.lt_succ_self _, _, r, pre ++ [x], xs ++ [.ref p], rfl, by walk_at "kp", ?_, e8, ?_, by omega, by omega, by simp; omega, by omega, ?_⟩
          · rw [show r = max c r by omega]
            exact k8.at e7 (by simp [Ne.symm lo])
          · exact (Steps.keep k8 (Steps.keep k7 (Steps.keep k6 r5))).snoc ⟨p, rfl, k8.sqT (k7.sqT hp)⟩
          · rw [hcov, List.append_assoc]
            rfl
      · walk_at "go"
        rename_i p H7 hp k7 e7
        exact fin p H7 k7 e7 (by rw [hcov, coverF_ge hlt]; simp)
end
/-! ### the law's own counting -/
def knL (ss : List SR) (ms : List MR) (N : Nat) : List (Key × V) := (List.range N).map fun (k : Nat) => (.inl ((k : Int) + 1), .int (ways ss ms ((k : Int) + 1)))
theorem knL_snoc (ss : List SR) (ms : List MR) (N : Nat) : knL ss ms (N + 1) = knL ss ms N ++ [(.inl ((N : Int) + 1), .int (ways ss ms ((N : Int) + 1)))] := by
  unfold knL
  rw [List.range_succ, List.map_append]
  rfl
theorem knL_len (ss : List SR) (ms : List MR) (N : Nat) : (knL ss ms N).length = N := by
  unfold knL
  rw [List.length_map, List.length_range]
theorem knL_val (ss : List SR) (ms : List MR) (n : Int) : ∀ N : Nat, valV (knL ss ms N) (.inl n) = if 1 ≤ n ∧ n ≤ N then some (.int (ways ss ms n)) else none
  | 0 => by rw [if_neg (by omega)]; rfl
  | N + 1 => by
    have ih := knL_val ss ms n N
    have h1 := knL_val ss ms ((N : Int) + 1) N
    rw [if_neg (by omega)] at h1
    rw [knL_snoc, valV_snoc _ _ _ _ h1, ih]
    by_cases e : n = (N : Int) + 1
    · subst e
      rw [if_pos rfl, if_pos (by omega)]
    · rw [if_neg (fun z => e (Sum.inl.inj z))]
      by_cases h : 1 ≤ n ∧ n ≤ (N : Int)
      · rw [if_pos h, if_pos (by omega)]
      · rw [if_neg h, if_neg (by omega)]
theorem knL_put (ss : List SR) (ms : List MR) (N : Nat) : putK (knL ss ms N) (.inl ((N : Int) + 1)) (.int (ways ss ms ((N : Int) + 1))) = knL ss ms (N + 1) := by
  have h1 := knL_val ss ms ((N : Int) + 1) N
  rw [if_neg (by omega)] at h1
  rw [knL_snoc]
  refine putK_new fun kv hkv e => ?_
  unfold knL at hkv
  obtain ⟨i, hi, rfl⟩ := List.mem_map.mp hkv
  rw [List.mem_range] at hi
  have := Sum.inl.inj e
  omega
theorem ways_mul {ss : List SR} {ms : List MR} (wf : Wf ss ms) {g r : Int} (hg : 0 ≤ g) (hr : 0 ≤ r) (h : g + r ≤ 190000) : CMulW (ways ss ms g) (ways ss ms r) := by
  have b : ∀ k : Int, (ways ss ms k).natAbs < 2 ^ (5 * k.toNat + 1) := fun k => by
    have h1 := bits_of (ways_nn ss ms k) (ways_lt wf.sl wf.ml wf.s1 wf.v2 k)
    have h2 : 2 ^ (5 * k.toNat) ≤ 2 ^ (5 * k.toNat + 1) := Nat.pow_le_pow_right (by decide) (by omega)
    omega
  exact wide_mul (b g) (b r) (by omega) (by omega) (by omega)
def spCnt (K : PySem.W.Frag) (j : Nat) : Sp := fun vs H Q _ => ∃ (d a b k : Addr) (n : Int) (N : Nat) (ss : List SR) (ms : List MR), vs = [.ref d, .int n, .ref k] ∧ RowsAt K H d a b ss ms ∧ Wf ss ms ∧ H k = some (.dK (knL ss ms N)) ∧ d ≠ k ∧ 1 ≤ n ∧ n ≤ N + j ∧ N ≤ 100000 ∧
  ∀ H', Keep [k] H H' → H' k = some (.dK (knL ss ms (max N n.toNat))) → Q (.int (ways ss ms n)) H'
section
variable {P : Program} {w : World} {K : PySem.W.Frag} {mg : Str → Option Value} {base : Heap}
theorem c_l_countN (T : Txt K mg) : Cal P w K mg base CX0 "_law_count" 1 ["_law_rows_here", "_law_number", "_law_known"] (fun _ _ _ _ => False) :=
  T.d_l_count.ok sc_l_count (fun _ _ _ _ h => h.elim) (fun _ _ _ _ _ _ _ _ _ _ h => h.elim)
theorem c_l_count0 (T : Txt K mg) : Cal P w K mg base CX0 "_law_count" 2 ["_law_rows_here", "_law_number", "_law_known"] (spCnt K 0) := by
  refine T.d_l_count.ok sc_l_count (fun vs H Q E h => ?_) (fun f cdv A outer s H vs Q E hr h => ?_)
  · obtain ⟨d, a, b, k, n, N, ss, ms, rfl, _⟩ := h
    rfl
  · obtain ⟨d, a, b, kd, n, N, ss, ms, rfl, R, wf, hk, hdk, h1, h2, h3, k⟩ := h
    have self := c_l_countN (P := P) (w := w) (base := base) T
    refine ⟨_, (pss_cons (ps_if (pt_cmpR (k_in K rfl hr) (pv 1) (pv 2) (by rfl)) (pss_one (ps_ret (pe_ix (k_ix K rfl hr) (pv 2) (pv 1) (fun _ _ => rfl)))) pss_nil)
      (pss_cons (ps_set (i := 3) sc_l_count.nd rfl (Or.inl rfl) (pe_callB (k_len K rfl) rfl T.b_len (by decide +kernel) (pa_cons (pe_lc (own := [("_law_word_here", 4), ("_law_value", 5)]) (g := (gUn K 2 (gCons (gName 4) (gCons (gName 5) gNil)))) rfl sc_l_count.nd (k_sq K rfl (pe_ix (k_ix K rfl hr) (pv 0) pe_str (fun _ _ => rfl))) (blkOk_by (N := ["_law_rows_here", "_law_number", "_law_known", "_law_found", "_law_word_here", "_law_value", "_law_most", "_law_is_unsaid", "_law_last", "_law_count_here", "_law_rest", "_law_ahead"]) (sc := defScope s_l_count) (by decide +kernel)) (fun _ _ _ _ _ => (k_un (n := 2) K rfl rfl (pgs_cons (pg_name (i := 4) sc_l_count.nd rfl (Or.inl rfl)) (pgs_cons (pg_name (i := 5) sc_l_count.nd rfl (Or.inl rfl)) pgs_nil)))) (fun _ _ _ _ _ => (pts_one (pt_cmpR (k_eq K rfl hr) (pv 5) (pv 1) (nomark _)))) (fun _ _ _ _ _ => (pv 4))) pa_nil)))
      (pss_cons (ps_for PassesOwn.never rfl (k_sq K rfl (pe_ix (k_ix K rfl hr) (pv 0) pe_str (fun _ _ => rfl))) (k_un (n := 5) K rfl rfl (pgs_cons (pg_name (i := 4) sc_l_count.nd rfl (Or.inl rfl)) (pgs_cons (pg_name (i := 5) sc_l_count.nd rfl (Or.inl rfl)) (pgs_cons (pg_name (i := 6) sc_l_count.nd rfl (Or.inl rfl)) (pgs_cons (pg_name (i := 7) sc_l_count.nd rfl (Or.inl rfl)) (pgs_cons (pg_name (i := 8) sc_l_count.nd rfl (Or.inl rfl)) pgs_nil)))))) (pss_cons (ps_set (i := 9) sc_l_count.nd rfl (Or.inl rfl) (pe_op (o_div) (pv 1) (pv 5)))
      (pss_cons (ps_set (i := 10) sc_l_count.nd rfl (Or.inl rfl) (pe_op (o_sub) (pv 1) (pe_op (o_mul) (pv 9) (pv 5))))
      (pss_one (ps_if (PW.pt (pw_and (pt_cmpR (o_gt) (pv 9) pe_int (nomark _)) (pw_and (pt_cmpR (o_le) (pv 10) (pv 8) (nomark _)) (pw_and1 (PW.pt (pw_or (pt_cmpR o_isN (pv 6) pe_non (nomark _)) (pw_or1 (pt_cmpR (o_le) (pv 9) (pv 6) (nomark _))))))))) (pss_cons (ps_set (i := 11) sc_l_count.nd rfl (Or.inl rfl) (pe_ifExp (PW.pt (pw_and (k_tr K rfl (pv 7)) (pw_and1 (pt_cmpR (k_eq K rfl hr) (pv 9) pe_int (nomark _))))) pe_int (pe_cal self hr (by omega) rfl pass0 (pa_cons (pv 0) (pa_cons (pv 9) (pa_cons (pv 2) pa_nil))))))
      (pss_one (ps_set (i := 3) sc_l_count.nd rfl (Or.inl rfl) (pe_op (k_add K rfl) (pv 3) (pe_op (o_mul) (pv 11) (pe_ifExp (pt_cmpR (k_eq K rfl hr) (pv 10) pe_int (nomark _)) pe_int (pe_cal self hr (by omega) rfl pass0 (pa_cons (pv 0) (pa_cons (pv 10) (pa_cons (pv 2) pa_nil)))))))))) pss_nil)))))
      (pss_cons (ps_asg (pv 3) (pg_sub (pv 2) (pv 1) (o_set hr)))
      (pss_one (ps_ret (pv 3))))))), ?_⟩
    refine i_st (σ' := [some _, some _, some _, none, none, none, none, none, none, none, none, none]) rfl ?_
    have hv := knL_val ss ms n N
    rw [if_pos (by omega)] at hv
    walk_at "go"
    refine i_inK (k := .inl n) hk rfl ?_
    rw [hv]
    dsimp only [Option.isSome]
    walk_at "go"
    refine i_ixK (k := .inl n) hk rfl hv ?_
    walk_at "go"
    exact k H Keep.rfl' (by rw [show max N n.toNat = N by omega]; exact hk)
theorem c_l_count (T : Txt K mg) : Cal P w K mg base CX0 "_law_count" 3 ["_law_rows_here", "_law_number", "_law_known"] (spCnt K 1) := by
  refine T.d_l_count.ok sc_l_count (fun vs H Q E h => ?_) (fun f cdv A outer s H vs Q E hr h => ?_)
  · obtain ⟨d, a, b, k, n, N, ss, ms, rfl, _⟩ := h
    rfl
  · obtain ⟨d, a, b, kd, n, N, ss, ms, rfl, R, wf, hk, hdk, h1, h2, h3, k⟩ := h
    have self := c_l_count0 (P := P) (w := w) (base := base) T
    refine ⟨_, (pss_cons (ps_if (pt_cmpR (k_in K rfl hr) (pv 1) (pv 2) (by rfl)) (pss_one (ps_ret (pe_ix (k_ix K rfl hr) (pv 2) (pv 1) (fun _ _ => rfl)))) pss_nil)
      (pss_cons (ps_set (i := 3) sc_l_count.nd rfl (Or.inl rfl) (pe_callB (k_len K rfl) rfl T.b_len (by decide +kernel) (pa_cons (pe_lc (own := [("_law_word_here", 4), ("_law_value", 5)]) (g := (gUn K 2 (gCons (gName 4) (gCons (gName 5) gNil)))) rfl sc_l_count.nd (k_sq K rfl (pe_ix (k_ix K rfl hr) (pv 0) pe_str (fun _ _ => rfl))) (blkOk_by (N := ["_law_rows_here", "_law_number", "_law_known", "_law_found", "_law_word_here", "_law_value", "_law_most", "_law_is_unsaid", "_law_last", "_law_count_here", "_law_rest", "_law_ahead"]) (sc := defScope s_l_count) (by decide +kernel)) (fun _ _ _ _ _ => (k_un (n := 2) K rfl rfl (pgs_cons (pg_name (i := 4) sc_l_count.nd rfl (Or.inl rfl)) (pgs_cons (pg_name (i := 5) sc_l_count.nd rfl (Or.inl rfl)) pgs_nil)))) (fun _ _ _ _ _ => (pts_one (pt_cmpR (k_eq K rfl hr) (pv 5) (pv 1) (nomark _)))) (fun _ _ _ _ _ => (pv 4))) pa_nil)))
      (pss_cons (ps_for PassesOwn.never rfl (k_sq K rfl (pe_ix (k_ix K rfl hr) (pv 0) pe_str (fun _ _ => rfl))) (k_un (n := 5) K rfl rfl (pgs_cons (pg_name (i := 4) sc_l_count.nd rfl (Or.inl rfl)) (pgs_cons (pg_name (i := 5) sc_l_count.nd rfl (Or.inl rfl)) (pgs_cons (pg_name (i := 6) sc_l_count.nd rfl (Or.inl rfl)) (pgs_cons (pg_name (i := 7) sc_l_count.nd rfl (Or.inl rfl)) (pgs_cons (pg_name (i := 8) sc_l_count.nd rfl (Or.inl rfl)) pgs_nil)))))) (pss_cons (ps_set (i := 9) sc_l_count.nd rfl (Or.inl rfl) (pe_op (o_div) (pv 1) (pv 5)))
      (pss_cons (ps_set (i := 10) sc_l_count.nd rfl (Or.inl rfl) (pe_op (o_sub) (pv 1) (pe_op (o_mul) (pv 9) (pv 5))))
      (pss_one (ps_if (PW.pt (pw_and (pt_cmpR (o_gt) (pv 9) pe_int (nomark _)) (pw_and (pt_cmpR (o_le) (pv 10) (pv 8) (nomark _)) (pw_and1 (PW.pt (pw_or (pt_cmpR o_isN (pv 6) pe_non (nomark _)) (pw_or1 (pt_cmpR (o_le) (pv 9) (pv 6) (nomark _))))))))) (pss_cons (ps_set (i := 11) sc_l_count.nd rfl (Or.inl rfl) (pe_ifExp (PW.pt (pw_and (k_tr K rfl (pv 7)) (pw_and1 (pt_cmpR (k_eq K rfl hr) (pv 9) pe_int (nomark _))))) pe_int (pe_cal self hr (by omega) rfl pass0 (pa_cons (pv 0) (pa_cons (pv 9) (pa_cons (pv 2) pa_nil))))))
      (pss_one (ps_set (i := 3) sc_l_count.nd rfl (Or.inl rfl) (pe_op (k_add K rfl) (pv 3) (pe_op (o_mul) (pv 11) (pe_ifExp (pt_cmpR (k_eq K rfl hr) (pv 10) pe_int (nomark _)) pe_int (pe_cal self hr (by omega) rfl pass0 (pa_cons (pv 0) (pa_cons (pv 10) (pa_cons (pv 2) pa_nil)))))))))) pss_nil)))))
      (pss_cons (ps_asg (pv 3) (pg_sub (pv 2) (pv 1) (o_set hr)))
      (pss_one (ps_ret (pv 3))))))), ?_⟩
    refine i_st (σ' := [some _, some _, some _, none, none, none, none, none, none, none, none, none]) rfl ?_
    have hv := knL_val ss ms n N
    by_cases hn : n ≤ N
    · rw [if_pos (by omega)] at hv
      walk_at "go"
      refine i_inK (k := .inl n) hk rfl ?_
      rw [hv]
      dsimp only [Option.isSome]
      walk_at "go"
      refine i_ixK (k := .inl n) hk rfl hv ?_
      walk_at "go"
      exact k H Keep.rfl' (by rw [show max N n.toNat = N by omega]; exact hk)
    · rw [if_neg (by omega)] at hv
      have en : n = (N : Int) + 1 := by omega
      have dict := R.dict
      obtain ⟨xs, e1, r1⟩ := R.sl
      obtain ⟨ys, e2, r2⟩ := R.ml
      have wsl := wf.sl
      have wml := wf.ml
      walk_at "go"
      refine i_inK (k := .inl n) hk rfl ?_
      rw [hv]
      dsimp only [Option.isSome]
      walk_at "go"
      refine i_lcW (walk_list (xs := xs)) (fun D j acc H' => Keep [] H H' ∧ (acc.length : Int) = cntS (ss.take j) n) (by walk_at "st") ?_ ?_ ?_ ?_
      · exact fun D H' _ kp _ => ⟨kp, rfl⟩
      · exact fun D j acc H' _ _ _ f => SqL.of (f.1.at e1 (by simp))
      · rintro D j x acc H10 H11 hj hD eD lD ⟨kD, fD⟩ ⟨rfl, hx⟩
        obtain ⟨s', hs, ⟨r, rfl, hr'⟩⟩ := r1.get hx
        have hr2 : SqT K H11 r _ := kD.sqT hr'
        have hj2 := (List.getElem?_eq_some_iff.mp hs).1
        walk_at "go"
        refine ⟨rfl, ?_⟩
        walk_at "go"
        refine i_ite (fun h => ?_) fun h => ?_
        · walk_at "go"
          refine i_lcY eD lD (by omega) fun H12 k12 e12 => ⟨(kD.wid0.trans k12).cut hD, ?_⟩
          rw [List.length_append, cntS_snoc hs, if_pos h, ← fD]
          rfl
        · walk_at "go"
          refine i_lcN eD lD ⟨kD, ?_⟩
          rw [cntS_snoc hs, if_neg h, ← fD]
          omega
      · rintro D acc H2 hD eD lD ⟨k2, fD⟩
        rw [r1.len, List.take_length] at fD
        have eD' : SqL K H2 D acc := SqL.of eD
        have R2 := R.keep k2 (by simp) (by simp) (by simp)
        have hk2 : H2 kd = some _ := k2.at hk (by simp)
        have dict2 := R2.dict
        have e2' : H2 b = some (.lst ys) := k2.at e2 (by simp)
        have bk : b ≠ kd := fun z => by subst z; rw [e2] at hk; cases hk
        have ak : a ≠ kd := fun z => by subst z; rw [e1] at hk; cases hk
        walk_at "go"
        rw [fD]
        refine i_forW (walk_list (xs := ys)) (fun i σ H' => ∃ z o4 o5 o6 o7 o8 o9 o10 o11, σ = [some (.ref d), some (.int n), some (.ref kd), some (.int z), o4, o5, o6, o7, o8, o9, o10, o11] ∧ z = cntS ss n + ((ms.take i).map (term (ways ss ms) n)).sum ∧ Keep [kd] H2 H' ∧ H' kd = some (.dK (knL ss ms N))) ?_ ?_ ?_ ?_
        · exact ⟨_, _, _, _, _, _, _, _, _, rfl, by simp, Keep.rfl', hk2⟩
        · rintro i σ H' hi ⟨z, o4, o5, o6, o7, o8, o9, o10, o11, rfl, hz, k4, e4⟩
          exact SqL.of (k4.at e2' (by simp [bk]))
        · rintro i x σ H4 H5 hi ⟨z, o4, o5, o6, o7, o8, o9, o10, o11, rfl, hz, k4, e4⟩ ⟨rfl, hx⟩
          obtain ⟨m, hm, ⟨r, rfl, hr'⟩⟩ := r2.get hx
          obtain ⟨_, hv1, hv2, hcc, hr0, hr1⟩ := wf.mo m (List.mem_of_getElem? hm)
          obtain ⟨d0, d1, d2, d3, d4⟩ := div_bd (n := n) (v := m.v) (by omega) (by omega)
          have hr2 : SqT K H5 r _ := k4.sqT (k2.sqT hr')
          have R5 := R2.keep k4 (by simp [hdk]) (by simp [ak]) (by simp [bk])
          have call : ∀ (g : Int) (H6 : Hp) (Q' : VK) (E' : XK), 1 ≤ g → g < n → Keep [kd] H5 H6 → H6 kd = some (.dK (knL ss ms N)) → (∀ H7, Keep [kd] H5 H7 → H7 kd = some (.dK (knL ss ms N)) → Q' (.int (ways ss ms g)) H7) → spCnt K 0 ([.ref d, .int g, .ref kd] ++ []) H6 Q' E' :=
            fun g H6 Q' E' hg1 hg2 k6 e6 q => ⟨d, a, b, kd, g, N, ss, ms, rfl, R5.keep k6 (by simp [hdk]) (by simp [ak]) (by simp [bk]), wf, e6, hdk, hg1, by omega, h3, fun H7 k7 e7 => q H7 (k6.trans k7) (by rw [e7, show max N g.toNat = N by omega])⟩
          have hfe : ∀ bb, bb = okC m.c (n / m.v) → (decide (0 < n / m.v) && (decide (n - n / m.v * m.v ≤ m.r) && bb)) = fitM m n := fun bb hb => by subst hb; rfl
          rcases hc : m.c with _ | c0
          all_goals
            rw [hc] at hr2
            walk_at "go"
            refine i_iteE (hfe _ (by rw [hc]; rfl)) (fun hf => ?_) fun hf => ?_
            · obtain ⟨f1, f2, f3⟩ := fitM_pos hf
              obtain ⟨g1, g2, g3, g4, g5⟩ := parts_lt hv1 f1
              walk_at "go"
              refine i_iteB (fun hu => ?_) fun hu => ?_
              · walk_at "go"
                refine i_ite (fun h0 => ?_) fun h0 => ?_
                · walk_at "go"
                  exact ⟨_, _, _, _, _, _, _, _, _, rfl, by rw [map_take_succ hm, term_is hf (headW_1 hu) (tailW_1 h0), ← Int.add_assoc, hz], k4, e4⟩
                · walk_at "go"
                  refine call _ _ _ _ (by omega) (by omega) Keep.rfl' e4 fun H7 k7 e7 => ?_
                  walk_at "go"
                  exact ⟨_, _, _, _, _, _, _, _, _, rfl, by rw [map_take_succ hm, term_is hf (headW_1 hu) (tailW_W h0), ← Int.add_assoc, hz], k4.trans k7, e7⟩
              · walk_at "go"
                refine call _ _ _ _ (by omega) (by omega) Keep.rfl' e4 fun H6 k6 e6 => ?_
                walk_at "go"
                refine i_ite (fun h0 => ?_) fun h0 => ?_
                · walk_at "go"
                  exact ⟨_, _, _, _, _, _, _, _, _, rfl, by rw [map_take_succ hm, term_is hf (headW_W hu) (tailW_1 h0), ← Int.add_assoc, hz], k4.trans k6, e6⟩
                · walk_at "go"
                  refine call _ _ _ _ (by omega) (by omega) k6 e6 fun H7 k7 e7 => ?_
                  walk_at "go"
                  refine i_mulW (ways_mul wf (by omega) (by omega) (by omega)) ?_
                  walk_at "go"
                  exact ⟨_, _, _, _, _, _, _, _, _, rfl, by rw [map_take_succ hm, term_is hf (headW_W hu) (tailW_W h0), ← Int.add_assoc, hz], k4.trans k7, e7⟩
            · walk_at "go"
              exact ⟨_, _, _, _, _, _, _, _, _, rfl, by rw [map_take_succ hm, term_not hf, Int.add_zero, hz], k4, e4⟩
        · rintro σ H4 ⟨z, o4, o5, o6, o7, o8, o9, o10, o11, rfl, hz, k4, e4⟩
          rw [r2.len, List.take_length, ← ways_eq wf.v2] at hz
          subst hz
          walk_at "go"
          refine i_setK (k := .inl n) e4 rfl (sz' (by rw [knL_len]; omega)) fun H5 k5 e5 => ?_
          walk_at "go"
          refine k H5 (by walk_at "kp") ?_
          rw [e5, en, knL_put, show max N ((N : Int) + 1).toNat = N + 1 by omega]
end
/-! ### one of a row, drawn -/
def spPick : Sp := fun vs H Q _ => ∃ (t : Int) (p c l : Addr) (xs : List V), vs = [.ref p, .ref l] ∧ PoolAt t H p c ∧ l ≠ p ∧ H l = some (.lst xs) ∧ xs ≠ [] ∧ xs.length ≤ 1000000 ∧
  ∀ x H', x ∈ xs → Keep [p] H H' → PoolAt t H' p c → Q x H'
section
variable {P : Program} {w : World} {K : PySem.W.Frag} {mg : Str → Option Value} {base : Heap}
end
theorem lookS_skip {ss : List SR} {x : Str} : (∀ s ∈ ss, s.w ≠ x) → lookS ss x = none := by
  intro h
  unfold lookS
  rw [Option.map_eq_none_iff, List.find?_eq_none]
  intro s hs
  simpa using h s hs
theorem lookS_hit {ss : List SR} {x : Str} {i : Nat} {s : SR} (hi : ss[i]? = some s) (hx : s.w = x) (h : ∀ t ∈ ss.take i, t.w ≠ x) : lookS ss x = some s.v := by
  unfold lookS
  have e : ss = ss.take i ++ s :: ss.drop (i + 1) := by
    obtain ⟨hl, e⟩ := List.getElem?_eq_some_iff.mp hi
    have h2 := List.drop_eq_getElem_cons hl
    rw [e] at h2
    rw [← h2, List.take_append_drop]
  rw [e, List.find?_append]
  have : (ss.take i).find? (fun t => decide (t.w = x)) = none := by
    rw [List.find?_eq_none]
    intro t ht
    simpa using h t ht
  rw [this, Option.none_or, List.find?_cons_of_pos (by simpa using hx)]
  rfl
theorem reachM_no {m : MR} {c t : Int} (h : (decide (0 < t) && (okC m.c t && decide (t * m.v ≤ c + 1))) = false) : reachM m c t = none := by
  unfold reachM
  rw [if_pos]
  simp only [Bool.and_eq_false_iff, decide_eq_false_iff_not] at h
  simp only [Bool.or_eq_true, Bool.not_eq_true', decide_eq_true_eq]
  rcases h with h | h | h
  · left; unfold isCnt; rw [if_pos]; simp; left; omega
  · left; unfold isCnt; rw [if_pos]; simp [h]
  · right; omega
theorem reachM_no2 {m : MR} {c t : Int} (h : (decide (t ≤ c) || (decide (t = 1) && m.u)) = false) : reachM m c t = none := by
  unfold reachM
  rw [if_pos]
  have : isCnt m c t = false := by
    unfold isCnt
    split
    · rfl
    · exact h
  simp [this]
theorem reachM_yes {m : MR} {c t : Int} (h : (decide (0 < t) && (okC m.c t && decide (t * m.v ≤ c + 1))) = true) (h2 : (decide (t ≤ c) || (decide (t = 1) && m.u)) = true) : reachM m c t = some (t * m.v + min c m.r) := by
  unfold reachM
  simp only [Bool.and_eq_true, decide_eq_true_eq] at h
  obtain ⟨h3, h4, h5⟩ := h
  have : isCnt m c t = true := by
    unfold isCnt
    rw [if_neg]
    · exact h2
    · simp [h4]; omega
  rw [if_neg]
  simp [this]; omega
def spLReach (K : PySem.W.Frag) : Sp := fun vs H Q _ => ∃ (d a b : Addr) (c t : Int) (x : Str) (ss : List SR) (ms : List MR), vs = [.ref d, .int c, .str x, .int t] ∧ RowsAt K H d a b ss ms ∧ Wf ss ms ∧ Q (vO (reach ss ms c (x, t))) H
def spGreatest (K : PySem.W.Frag) : Sp := fun vs H Q _ => ∃ (d r : Addr) (c : Int) (m : MR), vs = [.ref d, .int c, .ref r] ∧ SqT K H r (mV m) ∧ MOk m ∧ 0 ≤ c ∧ c ≤ 100000000 ∧ ∀ t, 0 ≤ t → t ≤ c + 1 → Q (.int t) H
section
variable {P : Program} {w : World} {K : PySem.W.Frag} {mg : Str → Option Value} {base : Heap}
theorem c_l_reach (T : Txt K mg) : Cal P w K mg base CX0 "_law_reach" 1 ["_law_rows_here", "_law_covered", "_law_word_here", "_law_times"] (spLReach K) := by
  refine T.d_l_reach.ok sc_l_reach (fun vs H Q E h => ?_) (fun f cdv A outer s H vs Q E hr h => ?_)
  · obtain ⟨d, a, b, c, t, x, ss, ms, rfl, _⟩ := h
    rfl
  · obtain ⟨d, a, b, c, t, x, ss, ms, rfl, R, wf, k⟩ := h
    refine ⟨_, (pss_cons (ps_for PassesOwn.never rfl (k_sq K rfl (pe_ix (k_ix K rfl hr) (pv 0) pe_str (fun _ _ => rfl))) (k_un (n := 2) K rfl rfl (pgs_cons (pg_name (i := 4) sc_l_reach.nd rfl (Or.inl rfl)) (pgs_cons (pg_name (i := 5) sc_l_reach.nd rfl (Or.inl rfl)) pgs_nil))) (pss_one (ps_if (pt_cmpR (k_eq K rfl hr) (pv 4) (pv 2) (nomark _)) (pss_one (ps_ret (pe_ifExp (PW.pt (pw_and (pt_cmpR (k_eq K rfl hr) (pv 3) pe_int (nomark _)) (pw_and1 (pt_cmpR (o_le) (pv 5) (pe_op (k_add K rfl) (pv 1) pe_int) (nomark _))))) (pv 5) pe_non))) pss_nil)))
      (pss_cons (ps_for PassesOwn.never rfl (k_sq K rfl (pe_ix (k_ix K rfl hr) (pv 0) pe_str (fun _ _ => rfl))) (k_un (n := 5) K rfl rfl (pgs_cons (pg_name (i := 4) sc_l_reach.nd rfl (Or.inl rfl)) (pgs_cons (pg_name (i := 5) sc_l_reach.nd rfl (Or.inl rfl)) (pgs_cons (pg_name (i := 6) sc_l_reach.nd rfl (Or.inl rfl)) (pgs_cons (pg_name (i := 7) sc_l_reach.nd rfl (Or.inl rfl)) (pgs_cons (pg_name (i := 8) sc_l_reach.nd rfl (Or.inl rfl)) pgs_nil)))))) (pss_one (ps_if (PW.pt (pw_and (pt_cmpR (k_eq K rfl hr) (pv 4) (pv 2) (nomark _)) (pw_and (pt_cmpR (o_gt) (pv 3) pe_int (nomark _)) (pw_and (PW.pt (pw_or (pt_cmpR o_isN (pv 6) pe_non (nomark _)) (pw_or1 (pt_cmpR (o_le) (pv 3) (pv 6) (nomark _))))) (pw_and1 (pt_cmpR (o_le) (pe_op (o_mul) (pv 3) (pv 5)) (pe_op (k_add K rfl) (pv 1) pe_int) (nomark _))))))) (pss_one (ps_if (PW.pt (pw_or (pt_cmpR (o_le) (pv 3) (pv 1) (nomark _)) (pw_or1 (PW.pt (pw_and (pt_cmpR (k_eq K rfl hr) (pv 3) pe_int (nomark _)) (pw_and1 (k_tr K rfl (pv 7)))))))) (pss_one (ps_ret (pe_op (k_add K rfl) (pe_op (o_mul) (pv 3) (pv 5)) (pe_callB (k_min K rfl rfl) rfl T.b_min (by decide +kernel) (pa_cons (pv 8) (pa_cons (pv 1) pa_nil)))))) pss_nil)) pss_nil)))
      (pss_one (ps_ret pe_non)))), ?_⟩
    refine i_st (σ' := [some _, some _, some _, some _, none, none, none, none, none]) rfl ?_
    have dict := R.dict
    obtain ⟨xs, e1, r1⟩ := R.sl
    obtain ⟨ys, e2, r2⟩ := R.ml
    walk_at "go"
    refine i_forW (walk_list (xs := xs)) (fun i σ H' => ∃ o4 o5, σ = [some (.ref d), some (.int c), some (.str x), some (.int t), o4, o5, none, none, none] ∧ H' = H ∧ ∀ s ∈ ss.take i, s.w ≠ x) ?_ ?_ ?_ ?_
    · exact ⟨_, _, rfl, rfl, fun s hs => absurd hs (by simp)⟩
    · rintro i σ H' hi ⟨o4, o5, rfl, rfl, _⟩
      exact SqL.of e1
    · rintro i x' σ H4 H5 hi ⟨o4, o5, rfl, rfl, hno⟩ ⟨rfl, hx⟩
      obtain ⟨s', hs, ⟨r, rfl, hr'⟩⟩ := r1.get hx
      walk_at "go"
      refine i_ite (fun hw => ?_) fun hw => ?_
      · have z := lookS_hit hs hw hno
        have zr : reach ss ms c (x, t) = if t = 0 then reachS s'.v c else none := by unfold reach; rw [z]
        rw [zr] at k
        walk_at "go"
        refine i_iteB (fun h0 => ?_) fun h0 => ?_
        · simp only [Bool.and_eq_true, decide_eq_true_eq] at h0
          walk_at "go"
          rw [if_pos h0.1] at k
          unfold reachS at k
          rw [if_pos h0.2] at k
          exact k
        · walk_at "go"
          by_cases ht : t = 0
          · rw [if_pos ht] at k
            unfold reachS at k
            rw [if_neg (by simpa [ht] using h0)] at k
            exact k
          · rw [if_neg ht] at k
            exact k
      · walk_at "go"
        refine ⟨_, _, rfl, rfl, fun s hs' => ?_⟩
        rw [take_snoc hs] at hs'
        exact mem_snoc hno hw s hs'
    · rintro σ H4 ⟨o4, o5, rfl, rfl, hno⟩
      rw [r1.len, List.take_length] at hno
      have z := lookS_skip hno
      have zr : reach ss ms c (x, t) = match lookM ms x with | none => none | some m => reachM m c t := by unfold reach; rw [z]; (try (cases lookM ms x <;> rfl))
      walk_at "go"
      refine i_forW (walk_list (xs := ys)) (fun i σ H' => ∃ o4 o5 o6 o7 o8, σ = [some (.ref d), some (.int c), some (.str x), some (.int t), o4, o5, o6, o7, o8] ∧ H' = H4 ∧ ∀ m ∈ ms.take i, m.w = x → reachM m c t = none) ?_ ?_ ?_ ?_
      · exact ⟨_, _, _, _, _, rfl, rfl, fun s hs => absurd hs (by simp)⟩
      · rintro i σ H' hi ⟨o4, o5, o6, o7, o8, rfl, rfl, _⟩
        exact SqL.of e2
      · rintro i x' σ H4 H5 hi ⟨o4, o5, o6, o7, o8, rfl, rfl, hno2⟩ ⟨rfl, hx⟩
        obtain ⟨m, hm, ⟨r, rfl, hr'⟩⟩ := r2.get hx
        have hmem := List.mem_of_getElem? hm
        obtain ⟨_, hv1, hv2, hcc, hr0, hr1⟩ := wf.mo m hmem
        have step : (m.w = x → reachM m c t = none) → ∀ m' ∈ ms.take (i + 1), m'.w = x → reachM m' c t = none := fun h m' hm' => by
          rw [take_snoc hm] at hm'
          exact mem_snoc hno2 h m' hm'
        rcases hc : m.c with _ | c0
        all_goals
          rw [hc] at hr'
          walk_at "go"
          refine i_iteE (c := decide (m.w = x) && (decide (0 < t) && (okC m.c t && decide (t * m.v ≤ c + 1)))) (by rw [hc]; rfl) (fun h1 => ?_) fun h1 => ?_
          · simp only [Bool.and_eq_true (decide (m.w = x)), decide_eq_true_eq (p := m.w = x)] at h1
            obtain ⟨h1, h2⟩ := h1
            walk_at "go"
            refine i_iteB (fun h3 => ?_) fun h3 => ?_
            · walk_at "go"
              have zm : lookM ms x = some m := by rw [← h1]; exact wf.lookM hmem
              rw [zr, zm] at k
              dsimp only at k
              rw [reachM_yes h2 h3] at k
              rw [Int.min_comm]
              exact k
            · walk_at "go"
              exact ⟨_, _, _, _, _, rfl, rfl, step fun _ => reachM_no2 h3⟩
          · walk_at "go"
            refine ⟨_, _, _, _, _, rfl, rfl, step fun hw => reachM_no ?_⟩
            simpa [hw] using h1
      · rintro σ H5 ⟨o4, o5, o6, o7, o8, rfl, rfl, hno2⟩
        rw [r2.len, List.take_length] at hno2
        walk_at "go"
        rw [zr] at k
        cases hl : lookM ms x with
        | none => rw [hl] at k; exact k
        | some m =>
          rw [hl] at k
          dsimp only at k
          obtain ⟨h1, h2⟩ := lookM_mem hl
          rw [hno2 m h1 h2] at k
          exact k
end
/-- a list of steps, n at most, each as Pr says -/
def LS (K : PySem.W.Frag) (H : Hp) (l : Addr) (n : Nat) (Pr : Str × Int → Prop) : Prop := ∃ xs sts, H l = some (.lst xs) ∧ Al (StepR K H) xs sts ∧ (∀ st ∈ sts, Pr st) ∧ xs.length ≤ n
theorem LS.keep {K : PySem.W.Frag} {m : List Addr} {H H' : Hp} {l : Addr} {n : Nat} {Pr : Str × Int → Prop} (k : Keep m H H') (h : LS K H l n Pr) (hm : l ∉ m) : LS K H' l n Pr := by
  obtain ⟨xs, sts, e, r, q⟩ := h
  exact ⟨xs, sts, k.at e hm, Steps.keep k r, q⟩
theorem cut_eq (xs : List V) (lo hi : Option Int) : ∃ a b, cutV xs lo hi = (xs.drop a).take b := ⟨_, _, rfl⟩
theorem LS.cut {K : PySem.W.Frag} {H H' : Hp} {l' : Addr} {n : Nat} {Pr : Str × Int → Prop} {xs : List V} {sts : List (Str × Int)} {lo hi : Option Int} (k : Keep [] H H') (r : Al (StepR K H) xs sts) (q : ∀ st ∈ sts, Pr st) (hn : xs.length ≤ n)
    (e : H' l' = some (.lst (cutV xs lo hi))) : LS K H' l' n Pr := by
  obtain ⟨a, b, e2⟩ := cut_eq xs lo hi
  rw [e2] at e
  refine ⟨_, (sts.drop a).take b, e, Steps.keep k ((r.drop a).take b), fun st hst => q st (List.mem_of_mem_drop (List.mem_of_mem_take hst)), ?_⟩
  simp only [List.length_take, List.length_drop]
  omega
theorem LS.rev {K : PySem.W.Frag} {H H' : Hp} {l' : Addr} {n : Nat} {Pr : Str × Int → Prop} {xs : List V} {sts : List (Str × Int)} (k : Keep [] H H') (r : Al (StepR K H) xs sts) (q : ∀ st ∈ sts, Pr st) (hn : xs.length ≤ n)
    (e : H' l' = some (.lst xs.reverse)) : LS K H' l' n Pr :=
  ⟨_, sts.reverse, e, Steps.keep k r.rev, fun st hst => q st (List.mem_reverse.mp hst), by rw [List.length_reverse]; exact hn⟩
theorem LS.cat {K : PySem.W.Frag} {H H' : Hp} {l' : Addr} {n m : Nat} {Pr : Str × Int → Prop} {xs ys : List V} {sts sts' : List (Str × Int)} (k : Keep [] H H') (r : Al (StepR K H) xs sts) (q : ∀ st ∈ sts, Pr st) (hn : xs.length ≤ n)
    (r' : Al (StepR K H) ys sts') (q' : ∀ st ∈ sts', Pr st) (hm : ys.length ≤ m) (e : H' l' = some (.lst (xs ++ ys))) : LS K H' l' (n + m) Pr :=
  ⟨_, sts ++ sts', e, Steps.keep k (r.app r'), fun st hst => (List.mem_append.mp hst).elim (q st) (q' st), by rw [List.length_append]; omega⟩
def okS (_ : Str × Int) : Prop := True
def spDrawnStep (K : PySem.W.Frag) : Sp := fun vs H Q _ => ∃ (t : Int) (p cc d a b : Addr) (c : Int) (ss : List SR) (ms : List MR), vs = [.ref p, .ref d, .int c] ∧ PoolAt t H p cc ∧ RowsAt K H d a b ss ms ∧ (d ≠ p ∧ a ≠ p ∧ b ≠ p) ∧ Wf ss ms ∧ 0 ≤ c ∧ c ≤ 10000000 ∧
  ∀ v H', Keep [p] H H' → PoolAt t H' p cc → (v = .non ∨ ∃ st, StepR K H' v st ∧ okS st ∧ (reach ss ms c st).isSome = true) → Q v H'
def spLSteps (K : PySem.W.Frag) : Sp := fun vs H Q _ => ∃ (t : Int) (p cc d a b : Addr) (ss : List SR) (ms : List MR), vs = [.ref p, .ref d] ∧ PoolAt t H p cc ∧ RowsAt K H d a b ss ms ∧ (d ≠ p ∧ a ≠ p ∧ b ≠ p) ∧ Wf ss ms ∧
  ∀ l H', H l = none → Keep [p] H H' → PoolAt t H' p cc → LS K H' l 40 okS → Q (.ref l) H'
def spSpoilt (K : PySem.W.Frag) : Sp := fun vs H Q _ => ∃ (t : Int) (p cc l : Addr), vs = [.ref p, .ref l] ∧ PoolAt t H p cc ∧ l ≠ p ∧ LS K H l 40 okS ∧
  ∀ l' H', H l' = none → Keep [p] H H' → PoolAt t H' p cc → LS K H' l' 200 okS → Q (.ref l') H'
section
variable {P : Program} {w : World} {K : PySem.W.Frag} {mg : Str → Option Value} {base : Heap}
end
section
variable {P : Program} {w : World} {K : PySem.W.Frag} {mg : Str → Option Value} {base : Heap}
/-! what the steps cover -/
end
def covS (ss : List SR) (ms : List MR) : Int → List (Str × Int) → Option Int
  | c, [] => some c
  | c, x :: xs => match reach ss ms c x with
    | none => none
    | some r => covS ss ms (max c r) xs
def dueF (ss : List SR) (ms : List MR) (sts : List (Str × Int)) : Bool :=
  match covS ss ms 0 sts with
  | none => false
  | some c => match endl ms with
    | none => false
    | some m => decide (m.r = m.v - 1) && decide (edgeN ss ms ≤ c)
def spIsDue (K : PySem.W.Frag) : Sp := fun vs H Q _ => ∃ (d a b l : Addr) (ss : List SR) (ms : List MR) (xs : List V) (sts : List (Str × Int)), vs = [.ref d, .ref l] ∧ RowsAt K H d a b ss ms ∧ Wf ss ms ∧ H l = some (.lst xs) ∧ Al (StepR K H) xs sts ∧ xs.length ≤ 1000000 ∧
  ∀ H', Keep [] H H' → Q (.bl (dueF ss ms sts)) H'
def sT (st : Str × Int) : List V := [.str st.1, .int st.2]
def spIsCert (K : PySem.W.Frag) (C : Addr) : Sp := fun vs H Q _ => ∃ (s : Addr) (av av2 : List Addr) (ss : List SR) (ms : List MR) (x : V) (sts : List (Str × Int)), vs = [.ref s, x] ∧ SysAt K C av H s ss ms ∧ Wf ss ms ∧ Shp K av2 H x (sts.map sT) ∧ sts.length ≤ 1000000 ∧
  ∀ H', Keep [] H H' → Q (.bl (dueF ss ms sts)) H'
theorem covS_cons {ss : List SR} {ms : List MR} {c r : Int} {x : Str × Int} {xs : List (Str × Int)} (h : reach ss ms c x = some r) : covS ss ms c (x :: xs) = covS ss ms (max c r) xs := by
  show (match reach ss ms c x with | none => none | some r => covS ss ms (max c r) xs) = _
  rw [h]
theorem covS_no {ss : List SR} {ms : List MR} {c : Int} {x : Str × Int} {xs : List (Str × Int)} (h : reach ss ms c x = none) : covS ss ms c (x :: xs) = none := by
  show (match reach ss ms c x with | none => none | some r => covS ss ms (max c r) xs) = _
  rw [h]
theorem drop_at {α : Type} {l : List α} {i : Nat} {x : α} (h : l[i]? = some x) : l.drop i = x :: l.drop (i + 1) := by
  obtain ⟨hl, e⟩ := List.getElem?_eq_some_iff.mp h
  rw [List.drop_eq_getElem_cons hl, e]
section
variable {P : Program} {w : World} {K : PySem.W.Frag} {mg : Str → Option Value} {base : Heap}
theorem c_is_certificate (T : Txt K mg) : Cal P w K mg base CX0 "is_certificate" 5 ["system", "steps"] (spIsCert K T.C_System) := by
  refine T.d_is_certificate.ok sc_is_certificate (fun vs H Q E h => ?_) (fun f cdv A outer s H vs Q E hr h => ?_)
  · obtain ⟨s, av, av2, ss, ms, x, sts, rfl, _⟩ := h
    rfl
  · obtain ⟨s, av, av2, ss, ms, x, sts, rfl, S, wf, ⟨l, xs, rfl, hl, r⟩, hn, k⟩ := h
    refine ⟨_, (pss_cons (ps_set (i := 2) sc_is_certificate.nd rfl (Or.inl rfl) (pe_mak (c_Cover_init T) hr (by omega) rfl pass0 (pa_cons (pv 0) pa_nil)))
      (pss_cons (ps_for PassesOwn.never rfl (k_sq K rfl (pv 1)) (k_un (n := 2) K rfl rfl (pgs_cons (pg_name (i := 3) sc_is_certificate.nd rfl (Or.inl rfl)) (pgs_cons (pg_name (i := 4) sc_is_certificate.nd rfl (Or.inl rfl)) pgs_nil))) (pss_cons (ps_if (pt_cmpR o_isN (pe_met (pv 2) T.cl_Cover (c_Cover_step_reach T) hr (by omega) pass0 (pa_cons (pv 3) (pa_cons (pv 4) pa_nil))) pe_non (nomark _)) (pss_one (ps_ret pe_bl)) pss_nil)
      (pss_one (ps_expr (pe_met (pv 2) T.cl_Cover (c_Cover_take T) hr (by omega) pass0 (pa_cons (pe_tup (pa_cons (pv 3) (pa_cons (pv 4) pa_nil))) pa_nil))))))
      (pss_cons (ps_set (i := 5) sc_is_certificate.nd rfl (Or.inl rfl) (pe_met0 (pv 0) T.cl_System (c_System_endless T) hr (by omega) pass0))
      (pss_one (ps_ret (pe_and (pe_cmpR o_notN (pv 5) pe_non (nomark _)) (pe_and (pe_cmpR (k_eq K rfl hr) (pe_ix (k_ix K rfl hr) (pv 5) pe_int (fun _ _ => rfl)) (pe_op (o_sub) (pe_ix (k_ix K rfl hr) (pv 5) pe_int (fun _ _ => rfl)) pe_int) (nomark _)) (pe_one (pe_cmpR (o_ge) (k_fld K rfl (pv 2) rfl) (pe_cal (c_bound T) hr (by omega) rfl pass0 (pa_cons (pv 0) pa_nil)) (nomark _)))))))))), ?_⟩
    refine i_st (σ' := [some _, some _, none, none, none, none]) rfl ?_
    have cl := T.cl_Cover
    have n2 := T.n_Cover_covered
    have lxs := r.len
    rw [List.length_map] at lxs
    unfold dueF at k
    walk_at "go"
    refine i_mk fun o dx H1 ho k1 e1 => ?_
    have hl1 := (SqB.fresh ho hl).keep k1 (by simp)
    have r1 := Conts.keep k1 (by simp) (Conts.fresh ho r)
    have S1 := (S.keep k1 (by simp)).addI e1
    refine ⟨o, s, dx, rfl, e1, fun H2 k2 e2 => ⟨rfl, ?_⟩⟩
    have hl2 := hl1.keep k2 (by simp)
    have r2 := Conts.keep k2 (by simp) r1
    have S2 := S1.keep k2 (by simp)
    have k02 : Keep [o] H H2 := k1.wid0.trans k2
    clear hl1 r1 S1 k1 k2 hl r S e1
    walk_at "go"
    refine i_sqB hl2 fun J G wk hG => ?_
    refine i_forW wk (fun i σ H' => ∃ c o3 o4 o5, σ = [some (.ref s), some (.ref l), some (.ref o), o3, o4, none] ∧ Keep [o] H2 H' ∧ H' o = some (.ins T.C_Cover dx (covF s c)) ∧ covS ss ms 0 sts = covS ss ms c (sts.drop i) ∧ 0 ≤ c ∧ c ≤ i * 100001 ∧ o5 = ()) ?_ ?_ ?_ ?_
    · exact ⟨0, _, _, (), rfl, Keep.rfl', e2, rfl, Int.le_refl _, by omega, rfl⟩
    · rintro i σ H' hi ⟨c, o3, o4, o5, rfl, k3, e3, hc, c0, c1, _⟩
      exact hG _ _ k3 (by simp)
    · rintro i x σ H4 H5 hi ⟨c, o3, o4, o5, rfl, k3, e3, hc, c0, c1, _⟩ ⟨rfl, hx⟩
      obtain ⟨d, hd, z, rfl, hz⟩ := r2.get hx
      obtain ⟨st, hst, rfl⟩ : ∃ st, sts[i]? = some st ∧ sT st = d := by
        rw [List.getElem?_map] at hd
        cases hs : sts[i]? with
        | none => rw [hs] at hd; cases hd
        | some st => rw [hs] at hd; injection hd with hd; exact ⟨st, rfl, hd⟩
      have hz5 : SqB K (o :: av2) H5 z [.str st.1, .int st.2] := hz.keep k3 (by simp)
      have S5 := S2.keep k3 (by simp)
      rw [drop_at hst] at hc
      walk_at "go"
      refine i_methv e3 (by walk_at "nolk") ?_
      walk_at "go"
      refine ⟨o, s, dx, c, st.2, st.1, _, ss, ms, rfl, e3, S5, wf, ?_⟩
      cases hR : reach ss ms c (st.1, st.2) with
      | none =>
        rw [covS_no hR] at hc
        rw [hc] at k
        walk_at "go"
        exact k H5 ((k02.trans k3).cut ho)
      | some q =>
        have rle := reach_le wf hR
        rw [covS_cons hR] at hc
        walk_at "go"
        refine i_methv e3 (by walk_at "nolk") ?_
        walk_at "go"
        rename_i y H6 hy k6 e6
        refine ⟨o, s, dx, y, c, q, st, _, ss, ms, rfl, k6.at e3 (by simp), SqT.of e6, S5.keep k6 (by simp), wf, hR, fun H7 k7 e7 => ?_⟩
        exact ⟨_, _, _, (), rfl, (k3.trans k6.wid0).trans k7, e7, hc, by omega, by omega, rfl⟩
    · rintro σ H4 ⟨c, o3, o4, o5, rfl, k3, e3, hc, c0, c1, _⟩
      rw [lxs, List.drop_length] at hc
      rw [hc] at k
      dsimp only [covS] at k
      have S4 := S2.keep k3 (by simp)
      have kk := (k02.trans k3).cut ho
      have e3' : H4 o = some (.ins T.C_Cover dx [("system", .ref s), ("covered", .int c)]) := e3
      clear k3 k02
      obtain ⟨dx', a, b, d, e, xs', ys, kvs, h1, h2, h3, h4, h5, h6, h7, h8, h9⟩ := S4.at_
      walk_at "go"
      refine i_methv h1 (by walk_at "nolk") ?_
      walk_at "go"
      refine ⟨s, _, ss, ms, rfl, S4, ?_⟩
      cases he : endl ms with
      | none =>
        rw [he] at k
        dsimp only at k ⊢
        walk_at "go"
        exact k H4 kk
      | some m =>
        rw [he] at k
        dsimp only at k ⊢
        intro r hr'
        unfold mV at hr'
        walk_at "go"
        refine i_ite (fun h1 => ?_) fun h1 => ?_
        · walk_at "go"
          refine ⟨s, _, ss, ms, rfl, S4, wf, fun H5 k5 => ?_⟩
          walk_at "go"
          have z := k H5 (kk.trans k5)
          rw [decide_eq_true h1] at z
          exact z
        · walk_at "go"
          have z := k H4 kk
          rw [decide_eq_false h1] at z
          exact z
end
theorem Steps.T {K : PySem.W.Frag} {H : Hp} {xs : List V} {sts : List (Str × Int)} (h : Al (StepR K H) xs sts) : Al (TRow K H) xs (sts.map sT) := by
  induction h with
  | nil => exact .nil
  | cons r _ ih => exact .cons r ih
/-! ### what the law's comparison asks -/
theorem DV.fl {K : PySem.W.Frag} {d : Nat} {H : Hp} {x : V} (h : flatD x) : DV K d H x x := by
  cases d with
  | zero => exact .inl ⟨rfl, h⟩
  | succ d => exact .inl ⟨rfl, h⟩
theorem DV.tup {K : PySem.W.Frag} {d : Nat} {H : Hp} {a b : Addr} {xs ys : List V} (ha : SqT K H a xs) (hb : SqT K H b ys) (r : Al (DV K d H) xs ys) (l : xs.length ≤ 1000000) : DV K (d + 1) H (.ref a) (.ref b) :=
  .inr ⟨a, b, xs, ys, rfl, rfl, .inl ⟨ha, hb⟩, r, l⟩
theorem DV.diag {K : PySem.W.Frag} {d : Nat} {H : Hp} : ∀ {xs : List V}, (∀ x ∈ xs, flatD x) → Al (DV K d H) xs xs
  | [], _ => .nil
  | x :: xs, h => .cons (DV.fl (h x (by simp))) (DV.diag fun y hy => h y (by simp [hy]))
theorem flat_str {l : List Str} : ∀ x ∈ l.map V.str, flatD x := fun x hx => by
  obtain ⟨z, _, rfl⟩ := List.mem_map.mp hx
  exact .inr (.inr (.inr ⟨z, rfl⟩))
theorem flat_ints {l : List Int} : ∀ x ∈ l.map V.int, flatD x := fun x hx => by
  obtain ⟨z, _, rfl⟩ := List.mem_map.mp hx
  exact .inr (.inr (.inl ⟨z, rfl⟩))
theorem flat_int (n : Int) : flatD (.int n) := .inr (.inr (.inl ⟨n, rfl⟩))
theorem flat_s (z : Str) : flatD (.str z) := .inr (.inr (.inr ⟨z, rfl⟩))
theorem same_bl {K : PySem.W.Frag} {d : Nat} {x y : Bool} {H : Hp} {Q : VK} {E : XK} (e : x = y) (h : ∀ H', Keep [] H H' → Q (.bl true) H') : spSame (DV K d) ([.bl x, .bl y] ++ []) H Q E := by
  subst e
  refine ⟨.bl x, .bl x, rfl, DV.fl (.inr (.inl ⟨x, rfl⟩)), h⟩
/-! ### certificates, plain -/
def certOf (ss : List SR) (ms : List MR) : Option (List (Str × Int)) :=
  let c := coverF ss ms (edgeN ss ms) (edgeN ss ms).toNat 0
  if edgeN ss ms ≤ c.2 then some c.1 else none
theorem edge_pos (ss : List SR) {ms : List MR} (hv : ∀ m ∈ ms, 2 ≤ m.v) : 1 ≤ edgeN ss ms := by
  have h0 := bnd_nn ss ms
  unfold edgeN
  cases h : endl ms with
  | none => dsimp only; omega
  | some m =>
    have := hv m (List.mem_of_find?_eq_some h)
    dsimp only
    omega
/-- above the bounded maximum only the endless multiplier is outermost -/
theorem above {ss : List SR} {ms : List MR} (wf : Wf ss ms) {n : Int} (hn : bnd ss ms < n) (h : 0 < ways ss ms n) : ∃ m, endl ms = some m ∧ fitM m n = true := by
  rw [ways_eq wf.v2] at h
  by_cases hs : 0 < cntS ss n
  · unfold cntS at hs
    obtain ⟨s, hs'⟩ := List.exists_mem_of_length_pos (show 0 < (ss.filter fun s => decide (s.v = n)).length by omega)
    obtain ⟨h1, h2⟩ := List.mem_filter.mp hs'
    have h2 : s.v = n := by simpa using h2
    have := (foldl_max_ge (bList ss ms) 0).2 s.v (by unfold bList; exact List.mem_append_left _ (List.mem_cons_of_mem _ (List.mem_map.mpr ⟨s, h1, rfl⟩)))
    unfold bnd at hn
    omega
  · obtain ⟨m, hm, ht⟩ := sum_pos_mem (l := ms) (f := term (ways ss ms) n) (by omega)
    unfold term at ht
    by_cases hf : fitM m n = true
    · rcases hc : m.c with _ | c
      · refine ⟨m, ?_, hf⟩
        cases he : endl ms with
        | none =>
          have := List.find?_eq_none.mp he m hm
          rw [hc] at this
          simp at this
        | some m' =>
          have h1 := List.mem_of_find?_eq_some he
          have h2 := List.find?_some he
          have en := wf.en
          have a1 : m ∈ ms.filter fun m => m.c.isNone := List.mem_filter.mpr ⟨hm, by rw [hc]; rfl⟩
          have a2 : m' ∈ ms.filter fun m => m.c.isNone := List.mem_filter.mpr ⟨h1, h2⟩
          rcases hl : (ms.filter fun m => m.c.isNone) with _ | ⟨x, _ | ⟨y, r⟩⟩
          · rw [hl] at a1; simp at a1
          · rw [hl] at a1 a2
            rw [List.mem_singleton.mp a1, List.mem_singleton.mp a2]
          · rw [hl] at en; simp at en
      · exfalso
        obtain ⟨h1, h2, h3⟩ := fitM_pos hf
        rw [hc] at h3
        have h3 : n / m.v ≤ c := by simpa [okC] using h3
        have := (foldl_max_ge (bList ss ms) 0).2 (c * m.v + m.r) (by unfold bList; exact List.mem_append_right _ (List.mem_filterMap.mpr ⟨m, hm, by rw [hc]; rfl⟩))
        unfold bnd at hn
        have hv := (wf.mo m hm).2.1
        have : n / m.v * m.v ≤ c * m.v := Int.mul_le_mul_of_nonneg_right h3 (by omega)
        omega
    · rw [if_neg hf] at ht
      omega
/-- where all is said up to the bound the endless multiplier's rest is whole -/
theorem whole_rest {ss : List SR} {ms : List MR} (wf : Wf ss ms) (h : ∀ n, 1 ≤ n → n ≤ edgeN ss ms → 0 < ways ss ms n) : ∃ m, endl ms = some m ∧ m.r = m.v - 1 := by
  have h0 := bnd_nn ss ms
  cases he : endl ms with
  | none =>
    exfalso
    have e1 : edgeN ss ms = bnd ss ms + 1 := by unfold edgeN; rw [he]
    obtain ⟨m, h1, _⟩ := above wf (n := bnd ss ms + 1) (by omega) (h _ (by omega) (by omega))
    rw [he] at h1
    cases h1
  | some m =>
    have e1 : edgeN ss ms = max (bnd ss ms) m.v + m.v := by unfold edgeN; rw [he]
    obtain ⟨_, hv, _, _, hr0, hr1⟩ := wf.mo m (List.mem_of_find?_eq_some he)
    refine ⟨m, rfl, ?_⟩
    -- the number with the greatest rest in the last period
    have d1 := Int.mul_ediv_add_emod (max (bnd ss ms) m.v + m.v) m.v
    have d2 := Int.emod_nonneg (max (bnd ss ms) m.v + m.v) (b := m.v) (by omega)
    have d3 := Int.emod_lt_of_pos (max (bnd ss ms) m.v + m.v) (b := m.v) (by omega)
    generalize hq : (max (bnd ss ms) m.v + m.v) / m.v = q at d1
    generalize (max (bnd ss ms) m.v + m.v) % m.v = r at d1 d2 d3
    have key : ∀ n : Int, bnd ss ms < n → n ≤ max (bnd ss ms) m.v + m.v → 1 ≤ n → (∃ g, n = g * m.v + (m.v - 1)) → m.r = m.v - 1 := by
      rintro n n1 n2 n3 ⟨g, hg⟩
      obtain ⟨m', h1, hf⟩ := above wf n1 (h n n3 (by omega))
      rw [he] at h1
      cases h1
      obtain ⟨f1, f2, f3⟩ := fitM_pos hf
      have : n / m.v = g := by
        rw [hg, Int.add_comm, Int.add_mul_ediv_right _ _ (by omega), Int.ediv_eq_zero_of_lt (by omega) (by omega), Int.zero_add]
      rw [this] at f2
      omega
    have hmul : m.v * q = q * m.v := Int.mul_comm _ _
    by_cases hr : r = m.v - 1
    · exact key (q * m.v + (m.v - 1)) (by omega) (by omega) (by omega) ⟨q, rfl⟩
    · have hqm : (q - 1) * m.v = q * m.v - m.v := by rw [Int.sub_mul, Int.one_mul]
      exact key ((q - 1) * m.v + (m.v - 1)) (by omega) (by omega) (by omega) ⟨q - 1, rfl⟩
theorem cov_cover {ss : List SR} {ms : List MR} {N : Int} : ∀ (f : Nat) (c : Int), covS ss ms c (coverF ss ms N f c).1 = some (coverF ss ms N f c).2 ∧
    ∀ k, k < (coverF ss ms N f c).1.length → ∃ c', covS ss ms c ((coverF ss ms N f c).1.take k) = some c' ∧ c' < N
  | 0, c => ⟨rfl, fun k hk => absurd hk (by simp [coverF])⟩
  | f + 1, c => by
    by_cases hlt : c < N
    · cases hb : best ss ms c with
      | mk x r =>
        cases x with
        | none =>
          rw [coverF_none hlt hb]
          exact ⟨rfl, fun k hk => absurd hk (by simp)⟩
        | some x =>
          have hb' := best_some (ss := ss) (ms := ms) (c := c) (x := x) (by rw [hb])
          rw [hb] at hb'
          obtain ⟨h1, h2⟩ := hb'
          dsimp only at h1 h2
          rw [coverF_some hlt hb]
          obtain ⟨i1, i2⟩ := cov_cover (ss := ss) (ms := ms) (N := N) f r
          have em : max c r = r := by omega
          refine ⟨by rw [covS_cons h1, em]; exact i1, fun k hk => ?_⟩
          cases k with
          | zero => exact ⟨c, rfl, hlt⟩
          | succ k =>
            obtain ⟨c', e1, e2⟩ := i2 k (by simpa using hk)
            exact ⟨c', by rw [List.take_succ_cons, covS_cons h1, em]; exact e1, e2⟩
    · rw [coverF_ge hlt]
      exact ⟨rfl, fun k hk => absurd hk (by simp)⟩
theorem cert_whole {ss : List SR} {ms : List MR} (wf : Wf ss ms) : (certOf ss ms).isSome = true ↔ ∀ n, 1 ≤ n → n ≤ edgeN ss ms → 0 < ways ss ms n := by
  have hp := edge_pos ss wf.v2
  obtain ⟨h1, h2⟩ := cover_end wf (edgeN ss ms) (edgeN ss ms).toNat 0 ⟨Int.le_refl _, fun k a b => by omega⟩ (by omega)
  unfold certOf
  dsimp only
  constructor
  · intro h n n1 n2
    by_cases hc : edgeN ss ms ≤ (coverF ss ms (edgeN ss ms) (edgeN ss ms).toNat 0).2
    · exact h1.2 n n1 (by omega)
    · rw [if_neg hc] at h
      cases h
  · intro h
    by_cases hc : edgeN ss ms ≤ (coverF ss ms (edgeN ss ms) (edgeN ss ms).toNat 0).2
    · rw [if_pos hc]
      rfl
    · exfalso
      rcases h2 with h2 | h2
      · exact hc h2
      · have := h ((coverF ss ms (edgeN ss ms) (edgeN ss ms).toNat 0).2 + 1) (by have := h1.1; omega) (by omega)
        omega
theorem cert_due {ss : List SR} {ms : List MR} (wf : Wf ss ms) {sts : List (Str × Int)} (h : certOf ss ms = some sts) : dueF ss ms sts = true := by
  have hw := (cert_whole wf).mp (by rw [h]; rfl)
  obtain ⟨m, e1, e2⟩ := whole_rest wf hw
  unfold certOf at h
  dsimp only at h
  split at h
  · rename_i hc
    injection h with h
    subst h
    unfold dueF
    rw [(cov_cover _ _).1]
    dsimp only
    rw [e1]
    dsimp only
    rw [decide_eq_true e2, decide_eq_true hc]
    rfl
  · cases h
theorem due_short {ss : List SR} {ms : List MR} {sts : List (Str × Int)} {c : Int} (h : covS ss ms 0 sts = some c) (hc : c < edgeN ss ms) : dueF ss ms sts = false := by
  unfold dueF
  rw [h]
  dsimp only
  cases endl ms with
  | none => rfl
  | some m =>
    dsimp only
    rw [decide_eq_false (show ¬ edgeN ss ms ≤ c by omega), Bool.and_false]
theorem cert_short {ss : List SR} {ms : List MR} {sts : List (Str × Int)} (h : certOf ss ms = some sts) {k : Nat} (hk : k < sts.length) : dueF ss ms (sts.take k) = false := by
  unfold certOf at h
  dsimp only at h
  split at h
  · injection h with h
    subst h
    obtain ⟨c', h1, h2⟩ := (cov_cover _ _).2 k hk
    exact due_short h1 h2
  · cases h
theorem due_nil {ss : List SR} {ms : List MR} (wf : Wf ss ms) : dueF ss ms [] = false := due_short (c := 0) rfl (by have := edge_pos ss wf.v2; omega)
theorem timesB_nn {m : MR} (hm : MOk m) {c : Int} (hc : 0 ≤ c) : 0 ≤ timesB m c := by
  have hv := hm.2.1
  have h1 : 0 ≤ (c + 1) / m.v := Int.ediv_nonneg (by omega) (by omega)
  unfold timesB
  cases hk : m.c with
  | none => dsimp only; omega
  | some k => have := (hm.2.2.2.1 k hk).1; dsimp only; omega
theorem timesOf_max {m : MR} {c : Int} (h : 0 ≤ timesB m c) : max (timesB m c) (if m.u = true then 1 else 0) = timesOf m c := by
  unfold timesOf
  cases hu : m.u with
  | false => simp; omega
  | true =>
    by_cases h0 : timesB m c = 0
    · rw [h0]; simp; omega
    · rw [decide_eq_false h0]; simp; omega
def CertR (K : PySem.W.Frag) (H : Hp) (v : V) : Option (List (Str × Int)) → Prop
  | none => v = .non
  | some sts => ∃ t xs, v = .ref t ∧ SqT K H t xs ∧ Al (StepR K H) xs sts
def spCertif (K : PySem.W.Frag) (Cs : Addr) : Sp := fun vs H Q _ => ∃ (s : Addr) (av : List Addr) (ss : List SR) (ms : List MR), vs = [.ref s] ∧ SysAt K Cs av H s ss ms ∧ Wf ss ms ∧
  ∀ v H', Keep [] H H' → CertR K H' v (certOf ss ms) → Q v H'
def spLooked (K : PySem.W.Frag) : Sp := fun vs H Q _ => ∃ (d a b : Addr) (c : Int) (ss : List SR) (ms : List MR), vs = [.ref d, .int c] ∧ RowsAt K H d a b ss ms ∧ Wf ss ms ∧ 0 ≤ c ∧ c ≤ 1000000 ∧
  ∀ l xs H', H l = none → Keep [] H H' → H' l = some (.lst xs) → Al (StepR K H') xs (stepsOf ss ms c) → Q (.ref l) H'
def spLDue (K : PySem.W.Frag) : Sp := fun vs H Q _ => ∃ (d a b : Addr) (ss : List SR) (ms : List MR), vs = [.ref d] ∧ RowsAt K H d a b ss ms ∧ Wf ss ms ∧
  ∀ v H', Keep [] H H' → CertR K H' v (certOf ss ms) → Q v H'
section
variable {P : Program} {w : World} {K : PySem.W.Frag} {mg : Str → Option Value} {base : Heap}
theorem c_certificate (T : Txt K mg) : Cal P w K mg base CX0 "certificate" 6 ["system"] (spCertif K T.C_System) := by
  refine T.d_certificate.ok sc_certificate (fun vs H Q E h => ?_) (fun f cdv A outer s H vs Q E hr h => ?_)
  · obtain ⟨s, av, ss, ms, rfl, _⟩ := h
    rfl
  · obtain ⟨s, av, ss, ms, rfl, S, wf, k⟩ := h
    refine ⟨_, (pss_cons (ps_asg (pe_cal (c_covering T) hr (by omega) rfl pass0 (pa_cons (pv 0) pa_nil)) (k_un (n := 2) K rfl rfl (pgs_cons (pg_name (i := 1) sc_certificate.nd rfl (Or.inl rfl)) (pgs_cons (pg_name (i := 2) sc_certificate.nd rfl (Or.inl rfl)) pgs_nil))))
      (pss_one (ps_ret (pe_ifExp (pt_cmpR (o_ge) (pv 2) (pe_cal (c_bound T) hr (by omega) rfl pass0 (pa_cons (pv 0) pa_nil)) (nomark _)) (pe_callTy (k_tup K rfl) rfl T.b_tuple (by decide +kernel) (pa_cons (pv 1) pa_nil)) pe_non)))), ?_⟩
    refine i_st (σ' := [some _, none, none]) rfl ?_
    walk_at "go"
    refine ⟨s, av, ss, ms, rfl, S, wf, fun p l xs H1 k1 e1 el r1 => ?_⟩
    walk_at "go"
    refine ⟨s, av, ss, ms, rfl, S.keep k1 (by simp), wf, fun H2 k2 => ?_⟩
    have z := fun v H' a b => k v H' a b
    unfold certOf at z
    dsimp only at z
    walk_at "go"
    refine i_ite (fun h => ?_) fun h => ?_
    · walk_at "go"
      refine i_tupL (SqL.of (k2.at el (by simp))) fun t H3 ht k3 e3 => ?_
      refine z _ H3 ((k1.trans k2).trans k3) ?_
      rw [if_pos h]
      exact ⟨t, xs, rfl, SqT.of e3, Steps.keep k3 (Steps.keep k2 r1)⟩
    · walk_at "go"
      refine z _ H2 (k1.trans k2) ?_
      rw [if_neg h]
      rfl
theorem c_l_looked (T : Txt K mg) : Cal P w K mg base CX0 "_law_looked" 1 ["_law_rows_here", "_law_covered"] (spLooked K) := by
  refine T.d_l_looked.ok sc_l_looked (fun vs H Q E h => ?_) (fun f cdv A outer s H vs Q E hr h => ?_)
  · obtain ⟨d, a, b, c, ss, ms, rfl, _⟩ := h
    rfl
  · obtain ⟨d, a, b, c, ss, ms, rfl, R, wf, hc0, hc1, k⟩ := h
    refine ⟨_, (pss_cons (ps_setLc (i := 2) (own := [("_law_word_here", 3), ("_law_value", 4)]) (g := (gUn K 2 (gCons (gName 3) (gCons (gName 4) gNil)))) (tt := tYes) rfl sc_l_looked.nd rfl rfl (sw_true rfl rfl rfl (by decide +kernel)) (k_sq K rfl (pe_ix (k_ix K rfl hr) (pv 0) pe_str (fun _ _ => rfl))) (blkOk_by (N := ["_law_rows_here", "_law_covered", "_law_found", "_law_word_here", "_law_value", "_law_most", "_law_is_unsaid", "_law_last", "_law_times"]) (sc := defScope s_l_looked) (by decide +kernel)) (fun _ _ _ _ _ => (k_un (n := 2) K rfl rfl (pgs_cons (pg_name (i := 3) sc_l_looked.nd rfl (Or.inl rfl)) (pgs_cons (pg_name (i := 4) sc_l_looked.nd rfl (Or.inl rfl)) pgs_nil)))) (fun _ _ _ _ _ => pts_nil) (fun _ _ _ _ _ => (pe_tup (pa_cons (pv 3) (pa_cons pe_int pa_nil)))))
      (pss_cons (ps_for PassesOwn.never rfl (k_sq K rfl (pe_ix (k_ix K rfl hr) (pv 0) pe_str (fun _ _ => rfl))) (k_un (n := 5) K rfl rfl (pgs_cons (pg_name (i := 3) sc_l_looked.nd rfl (Or.inl rfl)) (pgs_cons (pg_name (i := 4) sc_l_looked.nd rfl (Or.inl rfl)) (pgs_cons (pg_name (i := 5) sc_l_looked.nd rfl (Or.inl rfl)) (pgs_cons (pg_name (i := 6) sc_l_looked.nd rfl (Or.inl rfl)) (pgs_cons (pg_name (i := 7) sc_l_looked.nd rfl (Or.inl rfl)) pgs_nil)))))) (pss_cons (ps_set (i := 8) sc_l_looked.nd rfl (Or.inl rfl) (pe_callB (k_min K rfl rfl) rfl T.b_min (by decide +kernel) (pa_cons (pv 1) (pa_cons (pe_op (o_div) (pe_op (k_add K rfl) (pv 1) pe_int) (pv 4)) pa_nil))))
      (pss_cons (ps_if (pt_cmpR o_notN (pv 5) pe_non (nomark _)) (pss_one (ps_set (i := 8) sc_l_looked.nd rfl (Or.inl rfl) (pe_callB (k_min K rfl rfl) rfl T.b_min (by decide +kernel) (pa_cons (pv 8) (pa_cons (pv 5) pa_nil))))) pss_nil)
      (pss_one (ps_expr (k_bm K rfl PySem.F.plainAttrs_list PySem.F.slot_list_append PySem.F.type_list_append mt_append (pv 2) (pa_cons (pe_tup (pa_cons (pv 3) (pa_cons (pe_callB (k_max K rfl rfl) rfl T.b_max (by decide +kernel) (pa_cons (pv 8) (pa_cons (pe_callTy (c_int) rfl T.b_int (by decide +kernel) (pa_cons (pv 6) pa_nil)) pa_nil))) pa_nil))) pa_nil)))))))
      (pss_one (ps_ret (pv 2))))), ?_⟩
    refine i_st (σ' := [some _, some _, none, none, none, none, none, none, none]) rfl ?_
    have dict := R.dict
    obtain ⟨xs, e1, r1⟩ := R.sl
    obtain ⟨ys, e2, r2⟩ := R.ml
    have wsl := wf.sl
    have wml := wf.ml
    have lx := r1.len
    have ly := r2.len
    walk_at "go"
    refine i_lcW (walk_list (xs := xs)) (fun D j acc H' => Keep [] H H' ∧ Al (StepR K H') acc ((ss.take j).map fun s => (s.w, 0))) (by walk_at "st") ?_ ?_ ?_ ?_
    · exact fun D H' _ kp _ => ⟨kp, .nil⟩
    · exact fun D j acc H' _ _ _ f => SqL.of (f.1.at e1 (by simp))
    · rintro D j x acc H10 H11 hj hD eD lD ⟨kD, rD⟩ ⟨rfl, hx⟩
      obtain ⟨s', hs, ⟨r, rfl, hr'⟩⟩ := r1.get hx
      have hr2 : SqT K H11 r _ := kD.sqT hr'
      walk_at "go"
      refine ⟨rfl, ?_⟩
      walk_at "go"
      rename_i p H12 hp k12 e12
      refine i_lcY (k12.at eD (by simp)) lD (by omega) fun H13 k13 e13 => ⟨(by walk_at "kp" : Keep [D] H H13).cut hD, ?_⟩
      rw [take_snoc hs, List.map_append]
      exact (Steps.keep k13 (Steps.keep k12 rD)).snoc ⟨p, rfl, SqT.of (k13.atT e12)⟩
    · rintro D acc H2 hD eD lD ⟨k2, r3⟩
      rw [lx, List.take_length] at r3
      rw [lx] at lD
      have dict2 : H2 d = some _ := k2.at dict (by simp)
      have e22 : H2 b = some _ := k2.at e2 (by simp)
      have nbD : b ≠ D := ne_of_none e2 hD
      walk_at "go"
      refine i_forW (walk_list (xs := ys)) (fun i σ H' => ∃ o3 o4 o5 o6 o7 o8 acc, σ = [some (.ref d), some (.int c), some (.ref D), o3, o4, o5, o6, o7, o8] ∧ Keep [D] H2 H' ∧ H' D = some (.lst acc) ∧ acc.length ≤ ss.length + i ∧
        Al (StepR K H') acc (ss.map (fun s => (s.w, 0)) ++ (ms.take i).map fun m => (m.w, timesOf m c))) ?_ ?_ ?_ ?_
      · exact ⟨_, _, _, _, _, _, acc, rfl, Keep.rfl', eD, lD, by simpa using r3⟩
      · rintro i σ H' hi ⟨o3, o4, o5, o6, o7, o8, acc, rfl, k3, e3, l3, r3⟩
        exact SqL.of (k3.at e22 (by simp [nbD]))
      · rintro i x σ H4 H5 hi ⟨o3, o4, o5, o6, o7, o8, acc, rfl, k3, e3, l3, r3⟩ ⟨rfl, hx⟩
        obtain ⟨m, hm, ⟨r, rfl, hr'⟩⟩ := r2.get hx
        have om := wf.mo m (List.mem_of_getElem? hm)
        obtain ⟨_, hv1, hv2, hcc, hr0, hr1⟩ := id om
        have hr2 : SqT K H5 r _ := k3.sqT (k2.sqT hr')
        have tn := timesB_nn om hc0
        have tm := timesOf_max tn
        rcases hc : m.c with _ | c0
        all_goals
          rw [hc] at hr2
          walk_at "go"
          first
          | rw [timesB_some hc]
          | rw [timesB_none hc]
          rename_i p H6 hp k6 e6
          first
          | rw [timesB_some hc] at e6
          | rw [timesB_none hc] at e6
          rw [tm] at e6
          refine i_app (k6.at e3 (by simp)) (sz' (by omega)) fun H7 k7 e7 => ?_
          refine ⟨_, _, _, _, _, _, _, rfl, by walk_at "kp", e7, by simp; omega, ?_⟩
          rw [take_snoc hm, List.map_append, ← List.append_assoc]
          exact (Steps.keep k7 (Steps.keep k6 r3)).snoc ⟨p, rfl, SqT.of (k7.atT e6)⟩
      · rintro σ H4 ⟨o3, o4, o5, o6, o7, o8, acc, rfl, k3, e3, l3, r3⟩
        rw [ly, List.take_length] at r3
        walk_at "go"
        exact k D acc H4 hD ((by walk_at "kp" : Keep [D] H H4).cut hD) e3 r3
end
def BestV (K : PySem.W.Frag) (H : Hp) (v : V) (z : Option (Str × Int) × Int) : Prop := match z.1 with
  | none => v = .non
  | some x => ∃ t, v = .ref t ∧ SqT K H t [.str x.1, .int x.2, .int z.2]
theorem BestV.keep {K : PySem.W.Frag} {m : List Addr} {H H' : Hp} {v : V} {z : Option (Str × Int) × Int} (k : Keep m H H') (h : BestV K H v z) : BestV K H' v z := by
  unfold BestV at *
  cases hz : z.1 with
  | none => rw [hz] at h; exact h
  | some x => rw [hz] at h; obtain ⟨t, e, s⟩ := h; exact ⟨t, e, k.sqT s⟩
theorem edge_le {ss : List SR} {ms : List MR} (wf : Wf ss ms) : edgeN ss ms ≤ 300000 := by
  have h1 := bnd_le wf
  unfold edgeN
  cases h : endl ms with
  | none => dsimp only; omega
  | some m =>
    have := (wf.mo m (List.mem_of_find?_eq_some h)).2.2.1
    dsimp only
    omega
section
variable {P : Program} {w : World} {K : PySem.W.Frag} {mg : Str → Option Value} {base : Heap}
theorem c_l_due (T : Txt K mg) : Cal P w K mg base CX0 "_law_due" 3 ["_law_rows_here"] (spLDue K) := by
  refine T.d_l_due.ok sc_l_due (fun vs H Q E h => ?_) (fun f cdv A outer s H vs Q E hr h => ?_)
  · obtain ⟨d, a, b, ss, ms, rfl, _⟩ := h
    rfl
  · obtain ⟨d, a, b, ss, ms, rfl, R, wf, k⟩ := h
    refine ⟨_, (pss_cons (ps_set (i := 1) sc_l_due.nd rfl (Or.inl rfl) (pe_cal (c_l_edge T) hr (by omega) rfl pass0 (pa_cons (pv 0) pa_nil)))
      (pss_cons (ps_set (i := 2) sc_l_due.nd rfl (Or.inl rfl) pe_int)
      (pss_cons (ps_set (i := 3) sc_l_due.nd rfl (Or.inl rfl) (pe_lst pa_nil))
      (pss_cons (ps_for PassesOwn.never rfl (pi_range1 rfl T.b_range (pa_cons (pv 1) pa_nil)) (pg_name (i := 4) sc_l_due.nd rfl (Or.inl rfl)) (pss_cons (ps_if (pt_cmpR (o_ge) (pv 2) (pv 1) (nomark _)) (pss_one ps_break) pss_nil)
      (pss_cons (ps_set (i := 5) sc_l_due.nd rfl (Or.inl rfl) pe_non)
      (pss_cons (ps_for PassesOwn.never rfl (k_sq K rfl (pe_cal (c_l_looked T) hr (by omega) rfl pass0 (pa_cons (pv 0) (pa_cons (pv 2) pa_nil)))) (k_un (n := 2) K rfl rfl (pgs_cons (pg_name (i := 6) sc_l_due.nd rfl (Or.inl rfl)) (pgs_cons (pg_name (i := 7) sc_l_due.nd rfl (Or.inl rfl)) pgs_nil))) (pss_cons (ps_set (i := 8) sc_l_due.nd rfl (Or.inl rfl) (pe_cal (c_l_reach T) hr (by omega) rfl pass0 (pa_cons (pv 0) (pa_cons (pv 2) (pa_cons (pv 6) (pa_cons (pv 7) pa_nil))))))
      (pss_one (ps_if (PW.pt (pw_and (pt_cmpR o_notN (pv 8) pe_non (nomark _)) (pw_and (pt_cmpR (o_gt) (pv 8) (pv 2) (nomark _)) (pw_and1 (PW.pt (pw_or (pt_cmpR o_isN (pv 5) pe_non (nomark _)) (pw_or1 (pt_cmpR (o_gt) (pv 8) (pe_ix (k_ix K rfl hr) (pv 5) pe_int (fun _ _ => rfl)) (nomark _))))))))) (pss_one (ps_set (i := 5) sc_l_due.nd rfl (Or.inl rfl) (pe_tup (pa_cons (pv 6) (pa_cons (pv 7) (pa_cons (pv 8) pa_nil)))))) pss_nil))))
      (pss_cons (ps_if (pt_cmpR o_isN (pv 5) pe_non (nomark _)) (pss_one (ps_ret pe_non)) pss_nil)
      (pss_cons (ps_expr (k_bm K rfl PySem.F.plainAttrs_list PySem.F.slot_list_append PySem.F.type_list_append mt_append (pv 3) (pa_cons (pe_slice (k_sl K rfl) (pv 5) po_none (po_some pe_int)) pa_nil)))
      (pss_one (ps_set (i := 2) sc_l_due.nd rfl (Or.inl rfl) (pe_ix (k_ix K rfl hr) (pv 5) pe_int (fun _ _ => rfl))))))))))
      (pss_one (ps_ret (pe_callTy (k_tup K rfl) rfl T.b_tuple (by decide +kernel) (pa_cons (pv 3) pa_nil)))))))), ?_⟩
    refine i_st (σ' := [some _, none, none, none, none, none, none, none, none]) rfl ?_
    have ep := edge_pos ss wf.v2
    have ele := edge_le wf
    walk_at "go"
    refine ⟨d, a, b, ss, ms, rfl, R, wf, fun H1 k1 => ?_⟩
    have z := fun v H' a b => k v H' a b
    unfold certOf at z
    dsimp only at z
    clear k
    generalize hN : edgeN ss ms = N at *
    have R1 := R.keep k1 (by simp) (by simp) (by simp)
    walk_at "go"
    refine i_new (sz (by simp)) fun l H2 hl k2 e2 => ?_
    have R2 := R1.keep k2 (by simp) (by simp) (by simp)
    have nl : d ≠ l ∧ a ≠ l ∧ b ≠ l := ⟨ne_of_none R1.dict hl, by obtain ⟨_, e, _⟩ := R1.sl; exact ne_of_none e hl, by obtain ⟨_, e, _⟩ := R1.ml; exact ne_of_none e hl⟩
    have hlH : H l = none := k1.dom _ hl
    have fin : ∀ (H' : Hp) (acc : List V) (pre : List (Str × Int)) (c : Int) (f : Nat), Keep [l] H2 H' → H' l = some (.lst acc) → Al (StepR K H') acc pre → coverF ss ms N N.toNat 0 = (pre ++ (coverF ss ms N f c).1, (coverF ss ms N f c).2) → N ≤ c →
        uTup K [.ref l] H' Q := by
      intro H' acc pre c f k3 e3 r3 hcov hc
      rw [show coverF ss ms N f c = ([], c) from coverF_ge (by omega), List.append_nil] at hcov
      refine i_tupL (SqL.of e3) fun t H4 ht k4 e4 => ?_
      refine z _ H4 ((((k1.trans k2).wid0.trans k3).cut hlH).trans k4) ?_
      rw [hcov, if_pos hc]
      exact ⟨t, acc, rfl, SqT.of e4, Steps.keep k4 r3⟩
    have kk2 : Keep [] H H2 := k1.trans k2
    walk_at "go"
    refine i_forW (walk_rng0 (n := N.toNat)) (fun i σ H' => ∃ (o4 o5 o6 o7 o8 : Option V) (acc : List V) (pre : List (Str × Int)) (c : Int), σ = [some (.ref d), some (.int N), some (.int c), some (.ref l), o4, o5, o6, o7, o8] ∧ Keep [l] H2 H' ∧ H' l = some (.lst acc) ∧ Al (StepR K H') acc pre ∧ acc.length ≤ i ∧
      coverF ss ms N N.toNat 0 = (pre ++ (coverF ss ms N (N.toNat - i) c).1, (coverF ss ms N (N.toNat - i) c).2) ∧ (i : Int) ≤ c) ?_ ?_ ?_ ?_
    · exact ⟨_, _, _, _, _, [], [], 0, rfl, Keep.rfl', e2, .nil, by simp, by simp, by omega⟩
    · exact fun _ _ _ _ _ => trivial
    · rintro i x σ H3 H4 hi ⟨o4, o5, o6, o7, o8, acc, pre, c, rfl, k3, e3, r3, l3, hcov, hic⟩ ⟨rfl, rfl⟩
      walk_at "go"
      refine i_ite (fun hge => ?_) fun hge => ?_
      · walk_at "go"
        exact fin _ acc pre c _ k3 e3 r3 hcov hge
      · have R4 : RowsAt K H4 d a b ss ms := R2.keep k3 (by simp [nl.1]) (by simp [nl.2.1]) (by simp [nl.2.2])
        walk_at "go"
        refine ⟨d, a, b, c, ss, ms, rfl, R4, wf, by omega, by omega, fun l5 xs H5 hl5 k5 e5 r5 => ?_⟩
        have R5 := R4.keep k5 (by simp) (by simp) (by simp)
        have nl5 : l ≠ l5 := ne_of_none e3 hl5
        walk_at "go"
        refine i_forW (walk_list (xs := xs)) (fun j σ H' => ∃ (v : V) (o6 o7 o8 : Option V), σ = [some (.ref d), some (.int N), some (.int c), some (.ref l), some (.int (i : Int)), some v, o6, o7, o8] ∧ Keep [] H5 H' ∧
          BestV K H' v (((stepsOf ss ms c).take j).foldl (bestStep (reach ss ms c)) (none, c))) ?_ ?_ ?_ ?_
        · exact ⟨_, _, _, _, rfl, Keep.rfl', rfl⟩
        · rintro j σ H' hj ⟨v, o6, o7, o8, rfl, k6, f6⟩
          exact SqL.of (k6.at e5 (by simp))
        · rintro j x σ H6 H7 hj ⟨v, o6, o7, o8, rfl, k6, f6⟩ ⟨rfl, hx⟩
          obtain ⟨st, hst, ⟨p, rfl, hp⟩⟩ := r5.get hx
          have hp6 : SqT K H7 p _ := k6.sqT hp
          have R7 := R5.keep k6 (by simp) (by simp) (by simp)
          obtain ⟨b1, b2, b3, _⟩ := best_inv (ss := ss) (ms := ms) (c := c) ((stepsOf ss ms c).take j) (none, c) ⟨fun _ e => (by cases e), Int.le_refl _⟩
          rw [take_snoc hst, List.foldl_append]
          simp only [List.foldl_cons, List.foldl_nil]
          generalize ((stepsOf ss ms c).take j).foldl (bestStep (reach ss ms c)) (none, c) = y at f6 b1 b2 b3 ⊢
          have b2 : c ≤ y.2 := b2
          have eb : ∀ q, reach ss ms c (st.1, st.2) = q → bestStep (reach ss ms c) y st = (match q with | some r => if y.2 < r then (some st, r) else y | none => y) := fun q hq => by
            unfold bestStep
            rw [show reach ss ms c st = q from hq]
            (try (cases q <;> rfl))
          walk_at "go"
          refine ⟨d, a, b, c, st.2, st.1, ss, ms, rfl, R7, wf, ?_⟩
          cases hR : reach ss ms c (st.1, st.2) with
          | none =>
            rw [eb none hR]
            walk_at "go"
            exact ⟨_, _, _, _, rfl, k6, f6⟩
          | some r =>
            rw [eb (some r) hR]
            dsimp only
            walk_at "go"
            refine i_ite (fun h1 => ?_) fun h1 => ?_
            · cases hy : y.1 with
              | none =>
                have hy2 : y.2 = c := (b3 hy).2
                unfold BestV at f6
                rw [hy] at f6
                have f6 : v = .non := f6
                subst f6
                rw [if_pos (show y.2 < r by omega)]
                walk_at "go"
                rename_i q H8 hq k8 e8
                walk_at "go"
                exact ⟨_, _, _, _, rfl, k6.trans k8, q, rfl, SqT.of e8⟩
              | some x0 =>
                have f6' := f6
                unfold BestV at f6
                rw [hy] at f6
                obtain ⟨t0, rfl, ht0⟩ := f6
                walk_at "go"
                refine i_ite (fun h2 => ?_) fun h2 => ?_
                · rw [if_pos h2]
                  walk_at "go"
                  rename_i q H8 hq k8 e8
                  walk_at "go"
                  exact ⟨_, _, _, _, rfl, k6.trans k8, q, rfl, SqT.of e8⟩
                · rw [if_neg h2]
                  walk_at "go"
                  exact ⟨_, _, _, _, rfl, k6, f6'⟩
            · rw [if_neg (show ¬ y.2 < r by omega)]
              walk_at "go"
              exact ⟨_, _, _, _, rfl, k6, f6⟩
        · rintro σ H6 ⟨v, o6, o7, o8, rfl, k6, f6⟩
          rw [r5.len, List.take_length] at f6
          have f6 : BestV K H6 v (best ss ms c) := f6
          obtain ⟨fu, hfu⟩ : ∃ fu, N.toNat - i = fu + 1 := ⟨N.toNat - i - 1, by omega⟩
          rw [hfu] at hcov
          have k26 : Keep [l] H2 H6 := k3.trans (k5.trans k6).wid0
          have e6 : H6 l = some _ := (k5.trans k6).at e3 (by simp)
          have r6 := Steps.keep k6 (Steps.keep k5 r3)
          cases hb : best ss ms c with
          | mk y r =>
            cases y with
            | none =>
              rw [hb] at f6
              have f6 : v = .non := f6
              subst f6
              rw [coverF_none (c := c) (m := fu) (by omega) hb, List.append_nil] at hcov
              walk_at "go"
              refine z _ H6 ((kk2.wid0.trans k26).cut hlH) ?_
              rw [hcov, if_neg hge]
              rfl
            | some x0 =>
              rw [hb] at f6
              obtain ⟨t0, rfl, ht0⟩ := f6
              have hbs := (best_some (ss := ss) (ms := ms) (c := c) (x := x0) (by rw [hb])).2
              rw [hb] at hbs
              dsimp only at hbs ht0
              rw [coverF_some (c := c) (m := fu) (by omega) hb] at hcov
              walk_at "go"
              refine i_slT ht0 fun p7 H7 k7 e7 => ?_
              walk_at "go"
              refine i_app (k7.at e6 (by simp)) (sz' (by omega)) fun H8 k8 e8 => ?_
              have ht8 := k8.sqT (k7.sqT ht0)
              walk_at "go"
              refine ⟨_, _, _, _, _, acc ++ [.ref p7], pre ++ [x0], r, rfl, (k26.trans k7.wid0).trans k8, e8, (Steps.keep k8 (Steps.keep k7 r6)).snoc ⟨p7, rfl, k8.sqT e7⟩, by simp; omega, ?_, by omega⟩
              rw [show N.toNat - (i + 1) = fu by omega, hcov, List.append_assoc]
              rfl
    · rintro σ H3 ⟨o4, o5, o6, o7, o8, acc, pre, c, rfl, k3, e3, r3, l3, hcov, hic⟩
      walk_at "go"
      exact fin _ acc pre c _ k3 e3 r3 hcov (by omega)
end
theorem i_popAt {l : Addr} {xs : List V} {i : Int} {y : V} {H : Hp} {Q : VK} (e : H l = some (.lst xs)) (h0 : 0 ≤ i) (h1 : i < 1000000) (hy : xs[i.toNat]? = some y) (h : ∀ H', Keep [l] H H' → H' l = some (.lst (xs.eraseIdx i.toNat)) → Q y H') : rPopAt (.ref l) [.int i] H Q := by
  have hl := (List.getElem?_eq_some_iff.mp hy).1
  refine ⟨l, xs, i, i.toNat, y, rfl, rfl, e, by omega, by omega, ?_, hy, h _ (Keep.put e trivial) upd_same⟩
  unfold seqIndex?
  simp only [if_neg (show ¬ i < 0 by omega)]
  rw [if_pos (by simp only [Bool.and_eq_true, decide_eq_true_eq]; omega)]
/-! ### rows with new words -/
abbrev GR := Str × List V
def GRow (K : PySem.W.Frag) (H : Hp) (x : V) (g : GR) : Prop := ∃ a, x = .ref a ∧ SqT K H a (.str g.1 :: g.2)
theorem GRows.keep {K : PySem.W.Frag} {m : List Addr} {H H' : Hp} {xs : List V} {gs : List GR} (k : Keep m H H') (h : Al (GRow K H) xs gs) : Al (GRow K H') xs gs :=
  h.imp fun _ _ ⟨a, e, s⟩ => ⟨a, e, k.sqT s⟩
def gS (s : SR) : GR := (s.w, [.int s.v])
def gM (m : MR) : GR := (m.w, [.int m.v, vO m.c, .bl m.u, .int m.r])
theorem SRows.G {K : PySem.W.Frag} {H : Hp} {xs : List V} {ss : List SR} (h : Al (SRow K H) xs ss) : Al (GRow K H) xs (ss.map gS) := by
  induction h with
  | nil => exact .nil
  | cons r _ ih => exact .cons r ih
theorem MRows.G {K : PySem.W.Frag} {H : Hp} {xs : List V} {ms : List MR} (h : Al (MRow K H) xs ms) : Al (GRow K H) xs (ms.map gM) := by
  induction h with
  | nil => exact .nil
  | cons r _ ih => exact .cons r ih
theorem SRows.ofG {K : PySem.W.Frag} {H : Hp} : ∀ {xs : List V} {ss : List SR}, Al (GRow K H) xs (ss.map gS) → Al (SRow K H) xs ss
  | _, [], h => by cases h; exact .nil
  | _, s :: ss, h => by
    cases h with
    | cons r t => exact .cons r (SRows.ofG t)
theorem MRows.ofG {K : PySem.W.Frag} {H : Hp} : ∀ {xs : List V} {ms : List MR}, Al (GRow K H) xs (ms.map gM) → Al (MRow K H) xs ms
  | _, [], h => by cases h; exact .nil
  | _, m :: ms, h => by
    cases h with
    | cons r t => exact .cons r (MRows.ofG t)
/-- rows whose rests are those of others -/
theorem unG_S : ∀ {gs : List GR} {ss : List SR}, (∀ g ∈ gs, ∃ s ∈ ss, g.2 = (gS s).2) → ∃ ss' : List SR, gs = ss'.map gS ∧ ∀ s ∈ ss', ∃ s0 ∈ ss, s.v = s0.v
  | [], _, _ => ⟨[], rfl, by simp⟩
  | (w, r) :: gs, ss, h => by
    obtain ⟨ss', e, h'⟩ := unG_S (gs := gs) (ss := ss) fun g hg => h g (by simp [hg])
    obtain ⟨s, hs, e2⟩ := h (w, r) (by simp)
    refine ⟨⟨w, s.v⟩ :: ss', by rw [List.map_cons, ← e]; exact congrArg (· :: gs) (by show (w, r) = (w, _); rw [show r = _ from e2]; rfl), fun x hx => ?_⟩
    rcases List.mem_cons.mp hx with rfl | hx
    · exact ⟨s, hs, rfl⟩
    · exact h' x hx
theorem unG_M : ∀ {gs : List GR} {ms : List MR}, (∀ g ∈ gs, ∃ m ∈ ms, g.2 = (gM m).2) → ∃ ms' : List MR, gs = ms'.map gM ∧ ∀ m ∈ ms', ∃ m0 ∈ ms, m.v = m0.v ∧ m.c = m0.c ∧ m.u = m0.u ∧ m.r = m0.r
  | [], _, _ => ⟨[], rfl, by simp⟩
  | (w, r) :: gs, ms, h => by
    obtain ⟨ms', e, h'⟩ := unG_M (gs := gs) (ms := ms) fun g hg => h g (by simp [hg])
    obtain ⟨s, hs, e2⟩ := h (w, r) (by simp)
    refine ⟨⟨w, s.v, s.c, s.u, s.r⟩ :: ms', by rw [List.map_cons, ← e]; exact congrArg (· :: gs) (by show (w, r) = (w, _); rw [show r = _ from e2]; rfl), fun x hx => ?_⟩
    rcases List.mem_cons.mp hx with rfl | hx
    · exact ⟨s, hs, rfl, rfl, rfl, rfl⟩
    · exact h' x hx
/-- how many have no count: told by the rests -/
def isE (r : List V) : Bool := match r with
  | _ :: .non :: _ => true
  | _ => false
theorem isE_gM (m : MR) : isE (gM m).2 = m.c.isNone := by
  unfold gM
  cases m.c <;> rfl
theorem en_rests (ms : List MR) : (ms.filter fun m => m.c.isNone).length = (((ms.map gM).map (·.2)).filter isE).length := by
  rw [List.map_map, List.filter_map, List.length_map]
  congr 1
  refine List.filter_congr fun m _ => ?_
  exact (isE_gM m).symm
theorem en_perm {ms ms' : List MR} (h : ((ms'.map gM).map (·.2)).Perm ((ms.map gM).map (·.2))) : (ms'.filter fun m => m.c.isNone).length = (ms.filter fun m => m.c.isNone).length := by
  rw [en_rests, en_rests]
  exact (h.filter isE).length_eq
/-! the words: a letter that none else has, and what follows -/
def codesA : List Nat := (Str.ofString "abcdefghijklmnopqrstuvwxyz").cps.toList
theorem signs_A : signs (Str.ofString "abcdefghijklmnopqrstuvwxyz") = codesA.map fun c => V.str ⟨#[c]⟩ := rfl
theorem codesA_nd : codesA.Nodup := by decide +kernel
theorem codesA_len : codesA.length = 26 := by decide +kernel
def WdC (w : Str) (c : Nat) : Prop := Wok w ∧ w.cps.toList.head? = some c
theorem WdC.inj {w : Str} {c d : Nat} (h1 : WdC w c) (h2 : WdC w d) : c = d := Option.some.inj (h1.2.symm.trans h2.2)
theorem nodup_wdc : ∀ {ws : List Str} {cs : List Nat}, Al WdC ws cs → cs.Nodup → ws.Nodup
  | _, _, .nil, _ => List.nodup_nil
  | w :: ws, c :: cs, .cons h t, hn => by
    rw [List.nodup_cons] at hn ⊢
    refine ⟨fun hw => hn.1 ?_, nodup_wdc t hn.2⟩
    obtain ⟨i, hi⟩ := List.getElem?_of_mem hw
    obtain ⟨m, hm, r⟩ := t.get hi
    rw [h.inj r]
    exact List.mem_of_getElem? hm
instance wokD (w : Str) : Decidable (Wok w) := inferInstanceAs (Decidable (_ ∧ _ ∧ _ ∧ _))
theorem made_word {c d : Nat} (hc : c ∈ codesA) (hd : d < 8) : WdC ⟨#[c] ++ ((Str.ofString "abcdefg").cps.toList.take d).toArray⟩ c := by
  refine ⟨?_, by simp⟩
  have z : ∀ c ∈ codesA, ∀ d < 8, Wok ⟨#[c] ++ ((Str.ofString "abcdefg").cps.toList.take d).toArray⟩ := by decide +kernel
  exact z c hc d hd
/-- a permutation, one taken out -/
theorem perm_pop {α : Type} : ∀ {l : List α} {i : Nat} {x : α}, l[i]? = some x → (x :: l.eraseIdx i).Perm l
  | [], i, x, h => by simp at h
  | a :: l, 0, x, h => by
    simp at h
    subst h
    exact .refl _
  | a :: l, i + 1, x, h => by
    have h' : l[i]? = some x := by simpa using h
    exact (List.Perm.swap a x _).trans ((perm_pop h').cons a)
theorem Al.eraseIdx {α β : Type} {R : α → β → Prop} {as : List α} {bs : List β} (h : Al R as bs) : ∀ i, Al R (as.eraseIdx i) (bs.eraseIdx i) := by
  induction h with
  | nil => intro i; exact .nil
  | cons r t ih => intro i; cases i with
    | zero => exact t
    | succ i => exact .cons r (ih i)
theorem cutS_to {z : Str} {d : Int} (h : 0 ≤ d) (h1 : d ≤ z.length) : cutS z none (some d) = ⟨(z.cps.toList.take d.toNat).toArray⟩ := by
  obtain ⟨k, rfl⟩ := Int.eq_ofNat_of_zero_le h
  unfold cutS
  rw [HT.sIx_nat, HT.sIx_none, List.drop_zero, Int.toNat_natCast, Nat.sub_zero, Nat.min_eq_left (by omega)]
def sg (c : Nat) : V := .str ⟨#[c]⟩
/-- the inner loop of _law_turned -/
def turnB (K : PySem.W.Frag) : TS :=
  tSeq (tAsg (tBM K "list" rPopAt (tVar 7) (tCons (tCall spTake [] E0 (tCons (tVar 0) (tCons (tCB (uLen K) (tCons (tVar 7) tNil)) tNil))) tNil)) (gName 5))
  (tSeq (tAsg (tBM K "list" rPopAt (tVar 2) (tCons (tCall spTake [] E0 (tCons (tVar 0) (tCons (tCB (uLen K) (tCons (tVar 2) tNil)) tNil))) tNil)) (gName 9))
  (tDrop (tBM K "list" rAppend (tOp (uIx K) (tVar 3) (tVar 6)) (tCons (tOp (uAdd K)
    (tTup (tCons (tOp (uAdd K) (tVar 9) (tSl (uSl K) (tC (V.str (Str.ofString "abcdefg"))) tNoPart (tPart (tCall spTake [] E0 (tCons (tVar 0) (tCons (tC (V.int 8)) tNil)))))) tNil))
    (tSl (uSl K) (tVar 5) (tPart (tC (V.int 1))) tNoPart)) tNil))))
theorem sg_at {cs : List Nat} {i : Nat} (h : i < cs.length) : (cs.map sg)[i]? = some (sg cs[i]) := by
  rw [List.getElem?_map, List.getElem?_eq_getElem h]; rfl
theorem sg_erase (cs : List Nat) (i : Nat) : (cs.map sg).eraseIdx i = (cs.eraseIdx i).map sg := by
  induction cs generalizing i with
  | nil => rfl
  | cons c cs ih => cases i with
    | zero => rfl
    | succ i => simp [ih]
theorem turn_loop {K : PySem.W.Frag} {p c d l2 d3 D Lf Nw : Addr} {key : Str} {kvs : List (Key × V)} {t : Int} {n : Nat} {H0 : Hp} {gs0 : List GR} {xs0 : List V} {pre cs0 : List Nat} {x5 x8 x9 : Option V} {Nx : L2.St → Hp → Prop} {R : VK}
    (P0 : PoolAt t H0 p c) (hd : H0 d3 = some (.dK kvs)) (hk : valV kvs (.inr key) = some (.ref Nw)) (hL : H0 Lf = some (.lst xs0)) (rL : Al (GRow K H0) xs0 gs0) (hN : H0 Nw = some (.lst []))
    (hl : H0 l2 = some (.lst (cs0.map sg))) (hc : (pre ++ cs0).Perm codesA) (hn : gs0.length ≤ cs0.length) (lim : ∀ g ∈ gs0, g.2.length ≤ 5) (en : n = xs0.length)
    (n1 : Lf ≠ p) (n2 : Nw ≠ p) (n3 : l2 ≠ p) (n4 : d3 ≠ p) (n5 : Lf ≠ Nw) (n6 : Lf ≠ l2) (n7 : Nw ≠ l2) (c1 : c ≠ Lf) (c2 : c ≠ Nw) (c3 : c ≠ l2)
    (done : ∀ (H' : Hp) (gsN : List GR) (xsN : List V) (csU cs : List Nat) (o5 o8 o9 : Option V), Keep [p, Lf, Nw, l2] H0 H' → PoolAt t H' p c → H' Nw = some (.lst xsN) → Al (GRow K H') xsN gsN → (gsN.map (·.2)).Perm (gs0.map (·.2)) →
      Al WdC (gsN.map (·.1)) csU → H' l2 = some (.lst (cs.map sg)) → (pre ++ csU ++ cs).Perm codesA → cs.length + gs0.length = cs0.length → Nx [some (.ref p), some (.ref d), some (.ref l2), some (.ref d3), some (.ref D), o5, some (.str key), some (.ref Lf), o8, o9] H') :
    ForK (gName 8) (turnB K) Nx R [some (.ref p), some (.ref d), some (.ref l2), some (.ref d3), some (.ref D), x5, some (.str key), some (.ref Lf), x8, x9] (Itr 0 n) H0 := by
  have l0 := rL.len
  have dL : d3 ≠ Lf := fun z => by subst z; rw [hd] at hL; cases hL
  have dN : d3 ≠ Nw := fun z => by subst z; rw [hd] at hN; cases hN
  have dl : d3 ≠ l2 := fun z => by subst z; rw [hd] at hl; cases hl
  have cs26 : cs0.length ≤ 26 := by
    have := hc.length_eq
    rw [List.length_append, codesA_len] at this
    omega
  refine i_forW walk_rng0 (fun j σ H' => ∃ o5 o8 o9 xsL gsL xsN gsN csU cs, σ = [some (.ref p), some (.ref d), some (.ref l2), some (.ref d3), some (.ref D), o5, some (.str key), some (.ref Lf), o8, o9] ∧ Keep [p, Lf, Nw, l2] H0 H' ∧ PoolAt t H' p c ∧
    H' Lf = some (.lst xsL) ∧ Al (GRow K H') xsL gsL ∧ xsL.length + j = xs0.length ∧ H' Nw = some (.lst xsN) ∧ Al (GRow K H') xsN gsN ∧ xsN.length = j ∧ H' l2 = some (.lst (cs.map sg)) ∧ cs.length + j = cs0.length ∧
    ((gsN ++ gsL).map (·.2)).Perm (gs0.map (·.2)) ∧ Al WdC (gsN.map (·.1)) csU ∧ (pre ++ csU ++ cs).Perm codesA) ?_ ?_ ?_ ?_
  · exact ⟨_, _, _, xs0, gs0, [], [], [], cs0, rfl, Keep.rfl', P0, hL, rL, rfl, hN, .nil, rfl, hl, rfl, by simp, .nil, by simpa using hc⟩
  · exact fun _ _ _ _ _ => trivial
  · rintro j x σ H1 H1' hj ⟨o5, o8, o9, xsL, gsL, xsN, gsN, csU, cs, rfl, k1, P1, e1, r1, le1, e2, r2, le2, e3, le3, pm, wd, pc⟩ ⟨rfl, rfl⟩
    have q1 : SqL K H1' Lf xsL := SqL.of e1
    have q3 : SqL K H1' l2 _ := SqL.of e3
    have lg := r1.len
    have hxp : 0 < xsL.length := by omega
    have hcp : 0 < cs.length := by omega
    unfold turnB
    walk_at "go"
    rename_i i1 H2 i10 i11 k2 P2
    have e12 := k2.at e1 (by simp [n1])
    have hi : i1.toNat < xsL.length := by omega
    have hx : xsL[i1.toNat]? = some xsL[i1.toNat] := List.getElem?_eq_getElem hi
    refine i_popAt e12 i10 (by omega) hx fun H3 k3 e13 => ?_
    obtain ⟨g, hg, a, ea, hga⟩ := (GRows.keep k3 (GRows.keep k2 r1)).get hx
    rw [ea]
    have P3 := P2.keep k3 (by simp [Ne.symm n1]) (by simp [c1])
    have e33 : H3 l2 = some (.lst (cs.map sg)) := k3.at (k2.at e3 (by simp [n3])) (by simp [Ne.symm n6])
    have q33 : SqL K H3 l2 _ := SqL.of e33
    walk_at "go"
    refine spTake.use P3 (by rw [List.length_map]; omega) (by rw [List.length_map]; omega) fun i2 H4 i20 i21 k4 P4 => ?_
    rw [List.length_map] at i21
    walk_at "go"
    have hi2 : i2.toNat < cs.length := by omega
    refine i_popAt (k4.at e33 (by simp [n3])) i20 (by omega) (sg_at hi2) fun H5 k5 e35 => ?_
    rw [sg_erase] at e35
    have P5 := P4.keep k5 (by simp [Ne.symm n3]) (by simp [c3])
    have k25 : Keep [p, Lf, l2] H1' H5 := ((k2.wid (by simp)).trans (k3.wid (by simp))).trans ((k4.wid (by simp)).trans (k5.wid (by simp)))
    have d5 : H5 d3 = some (.dK kvs) := k25.at (k1.at hd (by simp [n4, dL, dN, dl])) (by simp [n4, dL, dl])
    have e25 : H5 Nw = some (.lst xsN) := k25.at e2 (by simp [n2, Ne.symm n5, n7])
    have e15 : H5 Lf = some (.lst (xsL.eraseIdx i1.toNat)) := k5.at (k4.at e13 (by simp [n1])) (by simp [n6])
    have a5 : SqT K H5 a (.str g.1 :: g.2) := k5.sqT (k4.sqT hga)
    unfold sg
    walk_at "go"
    refine i_ixK (k := .inr key) d5 rfl hk ?_
    walk_at "go"
    rename_i i3 H6 i30 i31 k6 P6
    refine i_slS (sz (by decide +kernel)) ?_
    rw [cutS_to i30 (by rw [show ((Str.ofString "abcdefg").length : Int) = 7 from by decide +kernel]; omega)]
    refine i_addS (sz ?_) ?_
    · simp only [Str.length]
      simp
      omega
    walk_at "go"
    rename_i tp H7 htp k7 e7
    have a7 : SqT K H7 a (.str g.1 :: g.2) := k7.sqT (k6.sqT a5)
    refine i_slT a7 fun q H8 k8 e8 => ?_
    rw [cut_from _ (by decide)] at e8
    have e8 : SqT K H8 q g.2 := e8
    have lg2 : g.2.length ≤ 5 := by
      have : g.2 ∈ gs0.map (·.2) := pm.mem_iff.mp (List.mem_map.mpr ⟨g, List.mem_append_right _ (List.mem_of_getElem? hg), rfl⟩)
      obtain ⟨g', h1, h2⟩ := List.mem_map.mp this
      rw [← h2]
      exact lim g' h1
    refine i_catT (SqT.of (k8.atT e7)) e8 (sz (by simp; omega)) fun q2 H9 k9 e9 => ?_
    have k69 : Keep [p] H5 H9 := k6.trans ((k7.trans k8).trans k9).wid0
    walk_at "go"
    refine i_app (k69.at e25 (by simp [n2])) (sz' (by omega)) fun H10 k10 e10 => ?_
    have P9 := P6.keep ((k7.trans k8).trans k9) (by simp) (by simp)
    have kk : Keep [p, Lf, Nw, l2] H1' H10 := ((k25.wid (by simp)).trans (k69.wid (by simp))).trans (k10.wid (by simp))
    have hcm : cs[i2.toNat] ∈ codesA := pc.mem_iff.mp (by simp [List.getElem_mem])
    refine ⟨_, _, _, xsL.eraseIdx i1.toNat, gsL.eraseIdx i1.toNat, _, gsN ++ [(⟨#[cs[i2.toNat]] ++ ((Str.ofString "abcdefg").cps.toList.take i3.toNat).toArray⟩, g.2)], csU ++ [cs[i2.toNat]], cs.eraseIdx i2.toNat, rfl, k1.trans kk, P9.keep k10 (by simp [Ne.symm n2]) (by simp [c2]), ?_, ?_, ?_, e10, ?_, ?_, ?_, ?_, ?_, ?_, ?_⟩
    · exact k10.at (k69.at e15 (by simp [n1])) (by simp [n5])
    · exact Al.eraseIdx (GRows.keep kk r1) _
    · rw [List.length_eraseIdx_of_lt hi]; omega
    · exact (GRows.keep kk r2).snoc ⟨q2, rfl, k10.sqT e9⟩
    · rw [List.length_append, le2]; rfl
    · exact k10.at (k69.at e35 (by simp [n3])) (by simp [Ne.symm n7])
    · rw [List.length_eraseIdx_of_lt hi2]; omega
    · refine List.Perm.trans ?_ pm
      rw [List.append_assoc]
      simp only [List.map_append]
      refine List.Perm.append_left _ ?_
      exact (perm_pop hg).map (fun g : GR => g.2)
    · rw [List.map_append]
      exact wd.snoc (made_word hcm (by omega))
    · refine List.Perm.trans ?_ pc
      simp only [List.append_assoc]
      refine List.Perm.append_left _ (List.Perm.append_left _ ?_)
      exact perm_pop (List.getElem?_eq_getElem hi2)
  · rintro σ H1 ⟨o5, o8, o9, xsL, gsL, xsN, gsN, csU, cs, rfl, k1, P1, e1, r1, le1, e2, r2, le2, e3, le3, pm, wd, pc⟩
    have hz : gsL = [] := List.eq_nil_of_length_eq_zero (by have := r1.len; omega)
    subst hz
    rw [List.append_nil] at pm
    exact done H1 gsN xsN csU cs o5 o8 o9 k1 P1 e2 r2 pm wd e3 pc (by omega)
theorem bnd_sub {ss ss' : List SR} {ms ms' : List MR} (h1 : ∀ s ∈ ss', ∃ s0 ∈ ss, s.v = s0.v) (h2 : ∀ m ∈ ms', ∃ m0 ∈ ms, m.v = m0.v ∧ m.c = m0.c ∧ m.u = m0.u ∧ m.r = m0.r) : bnd ss' ms' ≤ bnd ss ms := by
  have b0 := bnd_nn ss ms
  rcases foldl_max_mem (bList ss' ms') 0 with h | h
  · unfold bnd at b0 ⊢
    omega
  · show bnd ss' ms' ≤ _
    change bnd ss' ms' ∈ bList ss' ms' at h
    generalize bnd ss' ms' = z at h
    unfold bList at h
    rcases List.mem_append.mp h with h | h
    · rcases List.mem_cons.mp h with rfl | h
      · exact b0
      · obtain ⟨s, hs, rfl⟩ := List.mem_map.mp h
        obtain ⟨s0, hs0, e⟩ := h1 s hs
        rw [e]
        exact (foldl_max_ge (bList ss ms) 0).2 s0.v (by unfold bList; exact List.mem_append_left _ (List.mem_cons_of_mem _ (List.mem_map.mpr ⟨s0, hs0, rfl⟩)))
    · obtain ⟨m, hm, e⟩ := List.mem_filterMap.mp h
      obtain ⟨m0, hm0, e1, e2, e3, e4⟩ := h2 m hm
      exact (foldl_max_ge (bList ss ms) 0).2 z (by unfold bList; exact List.mem_append_right _ (List.mem_filterMap.mpr ⟨m0, hm0, by rw [← e1, ← e2, ← e4]; exact e⟩))
/-- the new rows are right -/
theorem turned_wf {ss ss1 ss' : List SR} {ms ms1 ms' : List MR} {csA csB cs : List Nat} (wf : Wf ss ms) (m1 : ∀ s ∈ ss1, s ∈ ss) (m2 : ∀ m ∈ ms1, m ∈ ms) (l1 : ss1.length ≤ 24) (l2 : ms1.length ≤ 6) (en : (ms1.filter fun m => m.c.isNone).length ≤ 1)
    (pA : ((ss'.map gS).map (·.2)).Perm ((ss1.map gS).map (·.2))) (pB : ((ms'.map gM).map (·.2)).Perm ((ms1.map gM).map (·.2)))
    (hA : ∀ s ∈ ss', ∃ s0 ∈ ss1, s.v = s0.v) (hB : ∀ m ∈ ms', ∃ m0 ∈ ms1, m.v = m0.v ∧ m.c = m0.c ∧ m.u = m0.u ∧ m.r = m0.r)
    (wA : Al WdC ((ss'.map gS).map (·.1)) csA) (wB : Al WdC ((ms'.map gM).map (·.1)) csB) (pc : (csA ++ csB ++ cs).Perm codesA) : Wf ss' ms' ∧ bnd ss' ms' ≤ bnd ss ms := by
  have lA := pA.length_eq
  have lB := pB.length_eq
  simp only [List.length_map] at lA lB
  have eA : (ss'.map gS).map (·.1) = ss'.map (·.w) := by rw [List.map_map]; rfl
  have eB : (ms'.map gM).map (·.1) = ms'.map (·.w) := by rw [List.map_map]; rfl
  rw [eA] at wA
  rw [eB] at wB
  refine ⟨⟨by omega, by omega, fun s hs => ?_, fun m hm => ?_, ?_, ?_⟩, ?_⟩
  · obtain ⟨s0, h0, e⟩ := hA s hs
    obtain ⟨i, hi⟩ := List.getElem?_of_mem (List.mem_map.mpr ⟨s, hs, rfl⟩ : s.w ∈ ss'.map (·.w))
    obtain ⟨c, _, hw⟩ := wA.get hi
    have := wf.so s0 (m1 s0 h0)
    exact ⟨hw.1, by rw [e]; exact this.2.1, by rw [e]; exact this.2.2⟩
  · obtain ⟨m0, h0, e1, e2, e3, e4⟩ := hB m hm
    obtain ⟨i, hi⟩ := List.getElem?_of_mem (List.mem_map.mpr ⟨m, hm, rfl⟩ : m.w ∈ ms'.map (·.w))
    obtain ⟨c, _, hw⟩ := wB.get hi
    have := wf.mo m0 (m2 m0 h0)
    refine ⟨hw.1, ?_⟩
    rw [e1, e2, e4]
    exact this.2
  · refine nodup_wdc (wA.app wB) ?_
    exact (List.nodup_append.mp (pc.nodup_iff.mpr codesA_nd)).1
  · rw [en_perm pB]
    exact en
  · refine bnd_sub (fun s hs => ?_) fun m hm => ?_
    · obtain ⟨s0, h0, e⟩ := hA s hs
      exact ⟨s0, m1 s0 h0, e⟩
    · obtain ⟨m0, h0, e⟩ := hB m hm
      exact ⟨m0, m2 m0 h0, e⟩
def spTurned (K : PySem.W.Frag) : Sp := fun vs H Q _ => ∃ (t : Int) (p c d a b : Addr) (ss : List SR) (ms : List MR), vs = [.ref p, .ref d] ∧ PoolAt t H p c ∧ RowsAt K H d a b ss ms ∧ d ≠ p ∧ a ≠ p ∧ b ≠ p ∧ WfS ss ms ∧ bnd ss ms < 3000 ∧
  ∀ (ss' : List SR) (ms' : List MR) (d' a' b' : Addr) (H' : Hp), RowsAt K H' d' a' b' ss' ms' → (Wf ss' ms' ∧ (∀ m ∈ ms', m.v ≤ 1000)) ∧ bnd ss' ms' < 3000 → H d' = none → H a' = none → H b' = none → Keep [p] H H' → PoolAt t H' p c → Q (.ref d') H'
section
variable {P : Program} {w : World} {K : PySem.W.Frag} {mg : Str → Option Value} {base : Heap}
theorem c_l_turned (T : Txt K mg) : Cal P w K mg base CX0 "_law_turned" 4 ["_law_pool_here", "_law_rows_here"] (spTurned K) := by
  refine T.d_l_turned.ok sc_l_turned (fun vs H Q E h => ?_) (fun f cdv A outer s H vs Q E hr h => ?_)
  · obtain ⟨t, p, c, d, a, b, ss, ms, rfl, _⟩ := h
    rfl
  · obtain ⟨t, p, c, d, a, b, ss, ms, rfl, hP, R, nd, na, nb, ⟨wf, wv, ws, wl⟩, hb, k⟩ := h
    refine ⟨_, (pss_cons (ps_set (i := 2) sc_l_turned.nd rfl (Or.inl rfl) (pe_callTy (k_lstS rfl) rfl T.b_list (by decide +kernel) (pa_cons pe_str pa_nil)))
      (pss_cons (ps_set (i := 3) sc_l_turned.nd rfl (Or.inl rfl) (pe_disp (pps_cons pe_str (pe_callTy (k_lst K rfl) rfl T.b_list (by decide +kernel) (pa_cons (pe_ix (k_ix K rfl hr) (pv 1) pe_str (fun _ _ => rfl)) pa_nil)) (pps_cons pe_str (pe_callTy (k_lst K rfl) rfl T.b_list (by decide +kernel) (pa_cons (pe_ix (k_ix K rfl hr) (pv 1) pe_str (fun _ _ => rfl)) pa_nil)) pps_nil)) (by rfl) (by rfl) (fun z => by cases z) (by decide)))
      (pss_cons (ps_setLc (i := 4) (own := [("_law_row", 5)]) (g := (gName 5)) rfl sc_l_turned.nd rfl rfl (sw_true rfl rfl rfl (by decide +kernel)) (k_sq K rfl (pe_ix (k_ix K rfl hr) (pv 3) pe_str (fun _ _ => rfl))) (blkOk_by (N := ["_law_pool_here", "_law_rows_here", "_law_letters", "_law_found", "_law_bounded_here", "_law_row", "_law_part", "_law_left", "_law_k", "_law_word_here"]) (sc := defScope s_l_turned) (by decide +kernel)) (fun _ _ _ _ _ => (pg_name (i := 5) sc_l_turned.nd rfl (Or.inl rfl))) (fun _ _ _ _ _ => (pts_one (pt_cmpR o_notN (pe_ix (k_ix K rfl hr) (pv 5) pe_int (fun _ _ => rfl)) pe_non (nomark _)))) (fun _ _ _ _ _ => (pv 5)))
      (pss_cut (ps_if (PW.pt (pw_and (k_tr K rfl (pe_ix (k_ix K rfl hr) (pv 3) pe_str (fun _ _ => rfl))) (pw_and1 (pt_cmpR (k_eq K rfl hr) (pe_cal (c_l_take T) hr (by omega) rfl pass0 (pa_cons (pv 0) (pa_cons pe_int pa_nil))) pe_int (nomark _))))) (pss_one (ps_expr (k_bm K rfl PySem.F.plainAttrs_list PySem.F.slot_list_append PySem.F.type_list_append mt_append (pe_ix (k_ix K rfl hr) (pv 3) pe_str (fun _ _ => rfl)) (pa_cons (pe_ix (k_ix K rfl hr) (pe_ix (k_ix K rfl hr) (pv 3) pe_str (fun _ _ => rfl)) (pe_cal (c_l_take T) hr (by omega) rfl pass0 (pa_cons (pv 0) (pa_cons (pe_callB (k_len K rfl) rfl T.b_len (by decide +kernel) (pa_cons (pe_ix (k_ix K rfl hr) (pv 3) pe_str (fun _ _ => rfl)) pa_nil)) pa_nil))) (fun _ _ => rfl)) pa_nil)))) pss_nil)
      (pss_cut (ps_if (PW.pt (pw_and (k_tr K rfl (pv 4)) (pw_and (pt_cmpR (o_lt) (pe_callB (k_len K rfl) rfl T.b_len (by decide +kernel) (pa_cons (pe_ix (k_ix K rfl hr) (pv 3) pe_str (fun _ _ => rfl)) pa_nil)) pe_int (nomark _)) (pw_and1 (pt_cmpR (k_eq K rfl hr) (pe_cal (c_l_take T) hr (by omega) rfl pass0 (pa_cons (pv 0) (pa_cons pe_int pa_nil))) pe_int (nomark _)))))) (pss_one (ps_expr (k_bm K rfl PySem.F.plainAttrs_list PySem.F.slot_list_append PySem.F.type_list_append mt_append (pe_ix (k_ix K rfl hr) (pv 3) pe_str (fun _ _ => rfl)) (pa_cons (pe_ix (k_ix K rfl hr) (pv 4) (pe_cal (c_l_take T) hr (by omega) rfl pass0 (pa_cons (pv 0) (pa_cons (pe_callB (k_len K rfl) rfl T.b_len (by decide +kernel) (pa_cons (pv 4) pa_nil)) pa_nil))) (fun _ _ => rfl)) pa_nil)))) pss_nil)
      (pss_cons (ps_for PassesOwn.never rfl (k_sq K rfl (pe_tup (pa_cons pe_str (pa_cons pe_str pa_nil)))) (pg_name (i := 6) sc_l_turned.nd rfl (Or.inl rfl)) (pss_cons (ps_set (i := 7) sc_l_turned.nd rfl (Or.inl rfl) (pe_ix (k_ix K rfl hr) (pv 3) (pv 6) (fun _ _ => rfl)))
      (pss_cons (ps_asg (pe_lst pa_nil) (pg_sub (pv 3) (pv 6) (o_set hr)))
      (pss_one (ps_for PassesOwn.never rfl (pi_range1 rfl T.b_range (pa_cons (pe_callB (k_len K rfl) rfl T.b_len (by decide +kernel) (pa_cons (pv 7) pa_nil)) pa_nil)) (pg_name (i := 8) sc_l_turned.nd rfl (Or.inl rfl)) (pss_cons (ps_set (i := 5) sc_l_turned.nd rfl (Or.inl rfl) (k_bm K rfl PySem.F.plainAttrs_list PySem.F.slot_list_pop PySem.F.type_list_pop mt_popAt (pv 7) (pa_cons (pe_cal (c_l_take T) hr (by omega) rfl pass0 (pa_cons (pv 0) (pa_cons (pe_callB (k_len K rfl) rfl T.b_len (by decide +kernel) (pa_cons (pv 7) pa_nil)) pa_nil))) pa_nil)))
      (pss_cons (ps_set (i := 9) sc_l_turned.nd rfl (Or.inl rfl) (k_bm K rfl PySem.F.plainAttrs_list PySem.F.slot_list_pop PySem.F.type_list_pop mt_popAt (pv 2) (pa_cons (pe_cal (c_l_take T) hr (by omega) rfl pass0 (pa_cons (pv 0) (pa_cons (pe_callB (k_len K rfl) rfl T.b_len (by decide +kernel) (pa_cons (pv 2) pa_nil)) pa_nil))) pa_nil)))
      (pss_one (ps_expr (k_bm K rfl PySem.F.plainAttrs_list PySem.F.slot_list_append PySem.F.type_list_append mt_append (pe_ix (k_ix K rfl hr) (pv 3) (pv 6) (fun _ _ => rfl)) (pa_cons (pe_op (k_add K rfl) (pe_tup (pa_cons (pe_op (k_add K rfl) (pv 9) (pe_slice (k_sl K rfl) pe_str po_none (po_some (pe_cal (c_l_take T) hr (by omega) rfl pass0 (pa_cons (pv 0) (pa_cons pe_int pa_nil)))))) pa_nil)) (pe_slice (k_sl K rfl) (pv 5) (po_some pe_int) po_none)) pa_nil)))))))))))
      (pss_one (ps_ret (pv 3))))))))), ?_⟩
    refine i_st (σ' := [some _, some _, none, none, none, none, none, none, none, none]) rfl ?_
    have dict := R.dict
    obtain ⟨xs, e1, r1⟩ := R.sl
    obtain ⟨ys, e2, r2⟩ := R.ml
    have lx := r1.len
    have ly := r2.len
    have wml := wf.ml
    walk_at "go"
    refine i_lstS (sz (by decide +kernel)) fun l2 H1 hl2 k1 e3 => ?_
    rw [signs_A] at e3
    have dict1 := k1.at dict (by simp)
    have e11 := k1.at e1 (by simp)
    have e21 := k1.at e2 (by simp)
    walk_at "go"
    refine i_disp fun d3 H2 hd3 k2 e2d => ?_
    have dict2 := k2.at dict1 (by simp)
    have e12 := k2.at e11 (by simp)
    have e22 := k2.at e21 (by simp)
    walk_at "go"
    refine i_lstL (SqL.of e12) fun a1 H3 ha1 k3 e3a => ?_
    have dict3 := k3.at dict2 (by simp)
    have e23 := k3.at e22 (by simp)
    walk_at "go"
    refine i_lstL (SqL.of e23) fun b1 H4 hb1 k4 e4b => ?_
    have nda := ne_of_none e2d ha1
    walk_at "go"
    refine i_dispK [(.inr "simple", .ref a1), (.inr "multipliers", .ref b1)] (k4.at (k3.at e2d (by simp)) (by simp)) rfl (by simp) fun H5 k5 e5 => ?_
    have e5 : H5 d3 = some (.dK [(.inr "simple", .ref a1), (.inr "multipliers", .ref b1)]) := e5
    have nbd : d3 ≠ b1 := ne_of_none (k3.at e2d (by simp)) hb1
    have nab : a1 ≠ b1 := ne_of_none e3a hb1
    have e5a : H5 a1 = some (.lst xs) := k5.at (k4.at e3a (by simp)) (by simp [Ne.symm nda])
    have e5b : H5 b1 = some (.lst ys) := k5.at e4b (by simp [Ne.symm nbd])
    have k15 : Keep [d3] H1 H5 := (((k2.trans k3).trans k4).wid0).trans k5
    have e5l : H5 l2 = some _ := k15.at e3 (by have := ne_of_none e3 hd3; simp [this])
    have kH5 : Keep [] H H5 := (k1.wid0.trans k15).cut (k1.dom _ hd3)
    have r15 : Al (GRow K H5) xs (ss.map gS) := GRows.keep kH5 (SRows.G r1)
    have r25 : Al (MRow K H5) ys ms := MRows.keep kH5 r2
    have P5 := hP.keep kH5 (by simp) (by simp)
    walk_at "go"
    refine i_lcW (walk_list (xs := ys)) (fun D j acc H' => Keep [] H5 H' ∧ Al (MRow K H') acc ((ms.take j).filter fun m => !m.c.isNone)) (by walk_at "st") ?_ ?_ ?_ ?_
    · exact fun D H' _ kp _ => ⟨kp, by simp; exact .nil⟩
    · exact fun D j acc H' _ _ _ f => SqL.of (f.1.at e5b (by simp))
    · rintro D j x acc H10 H11 hj hD eD lD ⟨kD, rD⟩ ⟨rfl, hx⟩
      obtain ⟨m, hm, ⟨r, rfl, hr'⟩⟩ := r25.get hx
      have hr2 : SqT K H11 r _ := kD.sqT hr'
      cases hc : m.c with
      | none =>
        rw [hc] at hr2
        walk_at "go"
        refine ⟨rfl, ?_⟩
        walk_at "go"
        refine i_lcN eD lD ⟨kD, ?_⟩
        rw [take_snoc hm, List.filter_append]
        simpa [hc] using rD
      | some c0 =>
        rw [hc] at hr2
        walk_at "go"
        refine ⟨rfl, ?_⟩
        walk_at "go"
        refine i_lcY eD lD (by omega) fun H12 k12 e12 => ⟨(kD.wid0.trans k12).cut hD, ?_⟩
        rw [take_snoc hm, List.filter_append]
        simp only [List.filter_cons, hc, Option.isNone_some, Bool.not_false, if_true, List.filter_nil]
        exact (MRows.keep k12 rD).snoc ⟨r, rfl, k12.sqT (by rw [hc]; exact hr2)⟩
    rintro D acc H6 hD eD lD ⟨k6, rD⟩
    rw [ly, List.take_length] at rD
    have d6 : H6 d3 = some (.dK [(.inr "simple", .ref a1), (.inr "multipliers", .ref b1)]) := k6.at e5 (by simp)
    have e6a := k6.at e5a (by simp)
    have e6b := k6.at e5b (by simp)
    have e6l := k6.at e5l (by simp)
    have r16 := GRows.keep k6 r15
    have r26 := MRows.keep k6 r25
    have P6 := P5.keep k6 (by simp) (by simp)
    have kH6 : Keep [] H H6 := kH5.trans k6
    have na1p : a1 ≠ p := (hP.off (k1.dom _ (k2.dom _ ha1))).1
    have na1c : a1 ≠ c := (hP.off (k1.dom _ (k2.dom _ ha1))).2
    walk_at "go"
    refine i_cut (fun σ' H' => ∃ (ss1 : List SR) (xs1 : List V), σ' = [some (.ref p), some (.ref d), some (.ref l2), some (.ref d3), some (.ref D), none, none, none, none, none] ∧ H' a1 = some (.lst xs1) ∧ Al (GRow K H') xs1 (ss1.map gS) ∧ ss1.length ≤ ss.length + 1 ∧ (∀ s ∈ ss1, s ∈ ss) ∧ Keep [p, a1] H6 H' ∧ PoolAt t H' p c) ?_ ?_
    · walk_at "go"
      refine i_truLb (SqL.of e6a) (fun hne => ?_) fun hne => ?_
      · walk_at "go"
        rename_i d1 H7 d10 d11 k7 P7
        have n3p : d3 ≠ p := (hP.off (k1.dom _ hd3)).1
        have d7 : H7 d3 = some (.dK [(.inr "simple", .ref a1), (.inr "multipliers", .ref b1)]) := k7.at d6 (by simp [n3p])
        have e7a : H7 a1 = some (.lst xs) := k7.at e6a (by simp [na1p])
        have lpos : 0 < xs.length := List.length_pos_iff.mpr hne
        refine i_ite (fun h1 => ?_) fun h1 => ?_
        · walk_at "go"
          rename_i d2 H8 d20 d21 k8 P8
          have e8a : H8 a1 = some (.lst xs) := k8.at e7a (by simp [na1p])
          have hi : d2.toNat < xs.length := by omega
          have hx : xs[d2.toNat]? = some xs[d2.toNat] := List.getElem?_eq_getElem hi
          refine i_ixL (SqL.of e8a) (atI_of d20 hx) ?_
          have r18 := GRows.keep k8 (GRows.keep k7 r16)
          obtain ⟨g, hg, hgr⟩ := r18.get hx
          rw [List.getElem?_map] at hg
          cases hs : ss[d2.toNat]? with
          | none => rw [hs] at hg; cases hg
          | some s0 =>
            rw [hs] at hg
            injection hg with hg
            subst hg
            walk_at "go"
            refine i_app e8a (sz' (by omega)) fun H9 k9 e9 => ?_
            refine ⟨ss ++ [s0], _, rfl, e9, ?_, by simp, ?_, ((k7.trans k8).wid (by simp)).trans (k9.wid (by simp)), P8.keep k9 (by simp [Ne.symm na1p]) (by simp [Ne.symm na1c])⟩
            · rw [List.map_append]
              exact (GRows.keep k9 r18).snoc (by obtain ⟨q, e, z⟩ := hgr; exact ⟨q, e, k9.sqT z⟩)
            · intro s hs'
              rcases List.mem_append.mp hs' with h | h
              · exact h
              · rw [List.mem_singleton.mp h]; exact List.mem_of_getElem? hs
        · walk_at "go"
          exact ⟨ss, xs, rfl, e7a, GRows.keep k7 r16, by omega, fun s hs => hs, k7.wid (by simp), P7⟩
      · walk_at "go"
        exact ⟨ss, xs, rfl, e6a, r16, by omega, fun s hs => hs, Keep.rfl', P6⟩
    · rintro σ' H7 ⟨ss1, xs1, rfl, e7a, r17, l71, m71, k7, P7⟩
      have nDp : D ≠ p := (P5.off hD).1
      have nDa : D ≠ a1 := Ne.symm (ne_of_none e5a hD)
      have nDb : D ≠ b1 := Ne.symm (ne_of_none e5b hD)
      have n3p : d3 ≠ p := (hP.off (k1.dom _ hd3)).1
      have nb1p : b1 ≠ p := (hP.off (k1.dom _ (k2.dom _ (k3.dom _ hb1)))).1
      have nb1c : b1 ≠ c := (hP.off (k1.dom _ (k2.dom _ (k3.dom _ hb1)))).2
      have d7 : H7 d3 = some (.dK [(.inr "simple", .ref a1), (.inr "multipliers", .ref b1)]) := k7.at d6 (by simp [n3p, nda])
      have e7b : H7 b1 = some (.lst ys) := k7.at e6b (by simp [nb1p, Ne.symm nab])
      have e7D : H7 D = some (.lst acc) := k7.at eD (by simp [nDp, nDa])
      have r27 := MRows.keep k7 r26
      have r7D := MRows.keep k7 rD
      walk_at "go"
      refine i_cut (fun σ' H' => ∃ (ms1 : List MR) (ys1 : List V), σ' = [some (.ref p), some (.ref d), some (.ref l2), some (.ref d3), some (.ref D), none, none, none, none, none] ∧ H' b1 = some (.lst ys1) ∧ Al (GRow K H') ys1 (ms1.map gM) ∧ ms1.length ≤ 6 ∧ (∀ m ∈ ms1, m ∈ ms) ∧ (ms1.filter fun m => m.c.isNone).length ≤ 1 ∧ Keep [p, b1] H7 H' ∧ PoolAt t H' p c) ?_ ?_
      · have same : ∀ H' : Hp, Keep [p] H7 H' → PoolAt t H' p c → ∃ (ms1 : List MR) (ys1 : List V), [some (V.ref p), some (.ref d), some (.ref l2), some (.ref d3), some (.ref D), none, none, none, none, none] = [some (.ref p), some (.ref d), some (.ref l2), some (.ref d3), some (.ref D), none, none, none, none, none] ∧ H' b1 = some (.lst ys1) ∧ Al (GRow K H') ys1 (ms1.map gM) ∧ ms1.length ≤ 6 ∧ (∀ m ∈ ms1, m ∈ ms) ∧ (ms1.filter fun m => m.c.isNone).length ≤ 1 ∧ Keep [p, b1] H7 H' ∧ PoolAt t H' p c :=
          fun H' kk PP => ⟨ms, ys, rfl, kk.at e7b (by simp [nb1p]), MRows.G (MRows.keep kk r27), wml, fun m hm => hm, wf.en, kk.wid (by simp), PP⟩
        walk_at "go"
        refine i_truLb (SqL.of e7D) (fun hne => ?_) fun hne => ?_
        · have lpos : 0 < acc.length := List.length_pos_iff.mpr hne
          walk_at "go"
          refine i_ite (fun h6 => ?_) fun h6 => ?_
          · walk_at "go"
            rename_i d1 H8 d10 d11 k8 P8
            have d8 : H8 d3 = some (.dK [(.inr "simple", .ref a1), (.inr "multipliers", .ref b1)]) := k8.at d7 (by simp [n3p])
            have e8b : H8 b1 = some (.lst ys) := k8.at e7b (by simp [nb1p])
            have e8D : H8 D = some (.lst acc) := k8.at e7D (by simp [nDp])
            refine i_ite (fun h1 => ?_) fun h1 => ?_
            · walk_at "go"
              rename_i d2 H9 d20 d21 k9 P9
              have e9b : H9 b1 = some (.lst ys) := k9.at e8b (by simp [nb1p])
              have e9D : H9 D = some (.lst acc) := k9.at e8D (by simp [nDp])
              have hi : d2.toNat < acc.length := by omega
              have hx : acc[d2.toNat]? = some acc[d2.toNat] := List.getElem?_eq_getElem hi
              refine i_ixL (SqL.of e9D) (atI_of d20 hx) ?_
              obtain ⟨m0, hm0, hgr⟩ := (MRows.keep k9 (MRows.keep k8 r7D)).get hx
              obtain ⟨hm1, hm2⟩ := List.mem_filter.mp (List.mem_of_getElem? hm0)
              walk_at "go"
              refine i_app e9b (sz' (by omega)) fun H10 k10 e10 => ?_
              refine ⟨ms ++ [m0], _, rfl, e10, MRows.G ((MRows.keep k10 (MRows.keep k9 (MRows.keep k8 r27))).snoc (by obtain ⟨q, e, z⟩ := hgr; exact ⟨q, e, k10.sqT z⟩)), by simp; omega, ?_, ?_, ((k8.trans k9).wid (by simp)).trans (k10.wid (by simp)), P9.keep k10 (by simp [Ne.symm nb1p]) (by simp [Ne.symm nb1c])⟩
              · intro m hm
                rcases List.mem_append.mp hm with h | h
                · exact h
                · rw [List.mem_singleton.mp h]; exact hm1
              · rw [List.filter_append]
                have : ([m0].filter fun m => m.c.isNone) = [] := by
                  rw [List.filter_eq_nil_iff]
                  intro m hm
                  rw [List.mem_singleton.mp hm]
                  intro h
                  rw [h] at hm2
                  cases hm2
                rw [this, List.append_nil]
                exact wf.en
            · walk_at "go"
              exact same _ k8 P8
          · walk_at "go"
            exact same _ Keep.rfl' P7
        · walk_at "go"
          exact same _ Keep.rfl' P7
      · rintro σ' H8 ⟨ms1, ys1, rfl, e8b, r18, l81, m81, en8, k8, P8⟩
        walk_at "go"
        rename_i tp H9 htp k9 e9
        have n2p : l2 ≠ p := (hP.off hl2).1
        have n2c : l2 ≠ c := (hP.off hl2).2
        have na12 : l2 ≠ a1 := ne_of_none (k2.at e3 (by simp)) ha1
        have nb12 : l2 ≠ b1 := ne_of_none (k3.at (k2.at e3 (by simp)) (by simp)) hb1
        have k89 : Keep [p, b1] H7 H9 := k8.trans k9.wid0
        have kA : Keep [p, a1, b1] H6 H9 := (k7.wid (by simp)).trans (k89.wid (by simp))
        have d9 : H9 d3 = some (.dK [(.inr "simple", .ref a1), (.inr "multipliers", .ref b1)]) := k89.at d7 (by simp [n3p, nbd])
        have a9 : H9 a1 = some (.lst xs1) := k89.at e7a (by simp [na1p, nab])
        have b9 : H9 b1 = some (.lst ys1) := k9.at e8b (by simp)
        have l9 : H9 l2 = some (.lst (codesA.map sg)) := kA.at e6l (by simp [n2p, na12, nb12])
        have r19 := GRows.keep k89 r17
        have r29 := GRows.keep k9 r18
        have P9 := P8.keep k9 (by simp) (by simp)
        have t9 : SqT K H9 tp [.str "simple", .str "multipliers"] := SqT.of e9
        have kH9 : Keep [p, a1, b1] H H9 := kH6.wid0.trans kA
        have la1 : H a1 = none := k1.dom _ (k2.dom _ ha1)
        have lb1 : H b1 = none := k1.dom _ (k2.dom _ (k3.dom _ hb1))
        clear kA k89 k9 k8 k7 k6 k5 k4 k3 k2 kH5 k15
        refine i_forW (walk_tup (xs := [.str "simple", .str "multipliers"])) (fun i σ H' => ∃ o5 o6 o7 o8 o9 A B xsA gsA cs csA xsB gsB csB, σ = [some (.ref p), some (.ref d), some (.ref l2), some (.ref d3), some (.ref D), o5, o6, o7, o8, o9] ∧
          Keep [p, l2, d3, a1, b1] H9 H' ∧ PoolAt t H' p c ∧ H' d3 = some (.dK [(.inr "simple", .ref A), (.inr "multipliers", .ref B)]) ∧ H' A = some (.lst xsA) ∧ Al (GRow K H') xsA gsA ∧ H' B = some (.lst xsB) ∧ Al (GRow K H') xsB gsB ∧
          H' l2 = some (.lst (cs.map sg)) ∧ (csA ++ csB ++ cs).Perm codesA ∧ H A = none ∧ H B = none ∧ A ≠ B ∧ A ≠ l2 ∧ B ≠ l2 ∧ (gsA.map (·.2)).Perm ((ss1.map gS).map (·.2)) ∧ (gsB.map (·.2)).Perm ((ms1.map gM).map (·.2)) ∧
          (i = 0 → A = a1 ∧ csA = [] ∧ csB = [] ∧ cs.length = 26) ∧ (1 ≤ i → Al WdC (gsA.map (·.1)) csA) ∧ (i ≤ 1 → B = b1 ∧ csB = [] ∧ 9 ≤ cs.length) ∧ (2 ≤ i → Al WdC (gsB.map (·.1)) csB)) ?_ ?_ ?_ ?_
        · exact ⟨_, _, _, _, _, a1, b1, xs1, ss1.map gS, codesA, [], ys1, ms1.map gM, [], rfl, Keep.rfl', P9, d9, a9, r19, b9, r29, l9, by simp, la1, lb1, nab, Ne.symm na12, Ne.symm nb12, .refl _, .refl _, fun _ => ⟨rfl, rfl, rfl, codesA_len⟩, fun h => absurd h (by omega), fun _ => ⟨rfl, rfl, by rw [codesA_len]; omega⟩, fun h => absurd h (by omega)⟩
        · rintro i σ H' hi ⟨o5, o6, o7, o8, o9, A, B, xsA, gsA, cs, csA, xsB, gsB, csB, rfl, kk, _⟩
          exact kk.sqT t9
        · rintro i x σ H' H'' hi ⟨o5, o6, o7, o8, o9, A, B, xsA, gsA, cs, csA, xsB, gsB, csB, rfl, kk, PP, dd, eA, rA, eB, rB, el, pc, hA, hB, nAB, nAl, nBl, pA, pB, i0, i1, i2, i3⟩ ⟨rfl, hx⟩
          have nAp := hP.off hA
          have nBp := hP.off hB
          have gl : gsA.length ≤ 17 := by have := pA.length_eq; simp only [List.length_map] at this; omega
          have gl2 : gsB.length ≤ 6 := by have := pB.length_eq; simp only [List.length_map] at this; omega
          have qA : SqL K H'' A xsA := SqL.of eA
          have qB : SqL K H'' B xsB := SqL.of eB
          have lxA := rA.len
          have lxB := rB.len
          have limA : ∀ g ∈ gsA, g.2.length ≤ 5 := fun g hg => by
            have := pA.mem_iff.mp (List.mem_map.mpr ⟨g, hg, rfl⟩)
            rw [List.map_map] at this
            obtain ⟨s, _, e⟩ := List.mem_map.mp this
            rw [← e]
            exact (by decide : 1 ≤ 5)
          have limB : ∀ g ∈ gsB, g.2.length ≤ 5 := fun g hg => by
            have := pB.mem_iff.mp (List.mem_map.mpr ⟨g, hg, rfl⟩)
            rw [List.map_map] at this
            obtain ⟨s, _, e⟩ := List.mem_map.mp this
            rw [← e]
            exact (by decide : 4 ≤ 5)
          have hkn : ∀ N, H'' N = none → H N = none := fun N h => kH9.dom _ (kk.dom _ h)
          have ii : i = 0 ∨ i = 1 := by simp at hi; omega
          rcases ii with rfl | rfl
          · cases hx
            obtain ⟨rfl, rfl, rfl, lcs⟩ := i0 rfl
            obtain ⟨rfl, _, _⟩ := i2 (by omega)
            have ndA : d3 ≠ A := fun z => by subst z; rw [dd] at eA; cases eA
            have ndl : d3 ≠ l2 := fun z => by subst z; rw [dd] at el; cases el
            walk_at "go"
            refine i_new (sz (by simp)) fun N Hn hN kn en => ?_
            have nN := hP.off (hkn N hN)
            have nAN : A ≠ N := ne_of_none eA hN
            have nBN : B ≠ N := ne_of_none eB hN
            have nNl : N ≠ l2 := Ne.symm (ne_of_none el hN)
            have ndN : d3 ≠ N := ne_of_none dd hN
            walk_at "go"
            refine i_setK (k := .inr "simple") (kn.at dd (by simp)) rfl (sz' (by simp)) fun Hs ks es => ?_
            have es : Hs d3 = some (.dK [(.inr "simple", .ref N), (.inr "multipliers", .ref B)]) := es
            have kns : Keep [d3] H'' Hs := kn.wid0.trans ks
            have eAs := kns.at eA (by simp [Ne.symm ndA])
            have qAs : SqL K Hs A xsA := SqL.of eAs
            walk_at "go"
            refine turn_loop (PP.keep kns (by simp [Ne.symm n3p]) (by simp; intro z; subst z; exact absurd dd (by obtain ⟨_, ⟨_, e, _⟩, _⟩ := PP; rw [e]; simp))) es (valV_pos rfl) eAs (GRows.keep kns rA) (ks.at en (by simp [Ne.symm ndN])) (kns.at el (by simp [Ne.symm ndl])) (pre := []) (by simpa using pc) (by omega) limA (by simp)
              nAp.1 nN.1 n2p n3p nAN nAl nNl (Ne.symm nAp.2) (Ne.symm nN.2) (Ne.symm n2c) fun H3 gsN xsN csU cs' o5' o8' o9' kl Pl eN rN pN wN el' pc' lc' => ?_
            refine ⟨_, _, _, _, _, N, B, xsN, gsN, cs', csU, xsB, gsB, [], rfl, ?_, Pl, kl.at es (by simp [n3p, ndA, ndN, ndl]), eN, rN, kl.at (kns.at eB (by simp; intro z; subst z; rw [dd] at eB; cases eB)) (by simp [nBp.1, Ne.symm nAB, nBN, nBl]), GRows.keep kl (GRows.keep kns rB), el', by simpa using pc', hkn N hN, hB, Ne.symm nBN, nNl, nBl, pN.trans pA, pB, fun h => absurd h (by omega), fun _ => wN, fun _ => ⟨rfl, rfl, by omega⟩, fun h => absurd h (by omega)⟩
            exact ((kk.wid (n := [N, p, l2, d3, A, B]) (by simp)).trans ((kns.wid (by simp)).trans (kl.wid (by simp)))).cut (kk.dom _ hN)
          · cases hx
            obtain ⟨rfl, rfl, lcs⟩ := i2 (by omega)
            have wA := i1 (by omega)
            have ndB : d3 ≠ B := fun z => by subst z; rw [dd] at eB; cases eB
            have ndl : d3 ≠ l2 := fun z => by subst z; rw [dd] at el; cases el
            walk_at "go"
            refine i_new (sz (by simp)) fun N Hn hN kn en => ?_
            have nN := hP.off (hkn N hN)
            have nAN : A ≠ N := ne_of_none eA hN
            have nBN : B ≠ N := ne_of_none eB hN
            have nNl : N ≠ l2 := Ne.symm (ne_of_none el hN)
            have ndN : d3 ≠ N := ne_of_none dd hN
            walk_at "go"
            refine i_setK (k := .inr "multipliers") (kn.at dd (by simp)) rfl (sz' (by simp)) fun Hs ks es => ?_
            have es : Hs d3 = some (.dK [(.inr "simple", .ref A), (.inr "multipliers", .ref N)]) := es
            have kns : Keep [d3] H'' Hs := kn.wid0.trans ks
            have eBs := kns.at eB (by simp [Ne.symm ndB])
            have qBs : SqL K Hs B xsB := SqL.of eBs
            walk_at "go"
            refine turn_loop (PP.keep kns (by simp [Ne.symm n3p]) (by simp; intro z; subst z; exact absurd dd (by obtain ⟨_, ⟨_, e, _⟩, _⟩ := PP; rw [e]; simp))) es ((valV_neg (key_ne (a := "simple") (b := "multipliers") (by decide +kernel))).trans (valV_pos rfl)) eBs (GRows.keep kns rB) (ks.at en (by simp [Ne.symm ndN])) (kns.at el (by simp [Ne.symm ndl])) (pre := csA) (by simpa using pc) (by omega) limB (by simp)
              nBp.1 nN.1 n2p n3p nBN nBl nNl (Ne.symm nBp.2) (Ne.symm nN.2) (Ne.symm n2c) fun H3 gsN xsN csU cs' o5' o8' o9' kl Pl eN rN pN wN el' pc' lc' => ?_
            refine ⟨_, _, _, _, _, A, N, xsA, gsA, cs', csA, xsN, gsN, csU, rfl, ?_, Pl, kl.at es (by simp [n3p, ndB, ndN, ndl]), kl.at (kns.at eA (by simp; intro z; subst z; rw [dd] at eA; cases eA)) (by simp [nAp.1, nAB, nAN, nAl]), GRows.keep kl (GRows.keep kns rA), eN, rN, el', pc', hA, hkn N hN, nAN, nAl, nNl, pA, pN.trans pB, fun h => absurd h (by omega), fun _ => wA, fun h => absurd h (by omega), fun _ => wN⟩
            exact ((kk.wid (n := [N, p, l2, d3, a1, B]) (by simp)).trans ((kns.wid (by simp)).trans (kl.wid (by simp)))).cut (kk.dom _ hN)
        · rintro σ H' ⟨o5, o6, o7, o8, o9, A, B, xsA, gsA, cs, csA, xsB, gsB, csB, rfl, kk, PP, dd, eA, rA, eB, rB, el, pc, hA, hB, nAB, nAl, nBl, pA, pB, i0, i1, i2, i3⟩
          have wA := i1 (by simp)
          have wB := i3 (by simp)
          walk_at "go"
          obtain ⟨ss', rfl, hS⟩ := unG_S (gs := gsA) (ss := ss1) fun g hg => by
            have := pA.mem_iff.mp (List.mem_map.mpr ⟨g, hg, rfl⟩)
            rw [List.map_map] at this
            obtain ⟨s, h, e⟩ := List.mem_map.mp this
            exact ⟨s, h, e.symm⟩
          obtain ⟨ms', rfl, hM⟩ := unG_M (gs := gsB) (ms := ms1) fun g hg => by
            have := pB.mem_iff.mp (List.mem_map.mpr ⟨g, hg, rfl⟩)
            rw [List.map_map] at this
            obtain ⟨s, h, e⟩ := List.mem_map.mp this
            exact ⟨s, h, e.symm⟩
          have fw := turned_wf wf m71 m81 (by omega) l81 en8 pA pB hS hM wA wB pc
          refine k ss' ms' d3 A B H' ⟨dd, ⟨xsA, eA, SRows.ofG rA⟩, ⟨xsB, eB, MRows.ofG rB⟩, nAB⟩ ⟨⟨fw.1, fun m hm => by obtain ⟨m0, h0, e, _⟩ := hM m hm; rw [e]; exact wv m0 (m81 m0 h0)⟩, by omega⟩ (k1.dom _ hd3) hA hB ?_ PP
          have kz : Keep [a1, b1, l2, d3, p] H H' := (kH9.wid (by simp)).trans (kk.wid (by simp))
          exact (((kz.cut la1).cut lb1).cut hl2).cut (k1.dom _ hd3)
end
theorem cover_len {ss : List SR} {ms : List MR} {N : Int} : ∀ (f : Nat) (c : Int), (coverF ss ms N f c).1.length ≤ f
  | 0, c => by simp [coverF]
  | f + 1, c => by
    by_cases hlt : c < N
    · cases hb : best ss ms c with
      | mk x r =>
        cases x with
        | none => rw [coverF_none hlt hb]; simp
        | some x =>
          rw [coverF_some hlt hb]
          have := cover_len (ss := ss) (ms := ms) (N := N) f r
          simp only [List.length_cons]
          omega
    · rw [coverF_ge hlt]
      simp
theorem cert_len {ss : List SR} {ms : List MR} (wf : Wf ss ms) {sts : List (Str × Int)} (h : certOf ss ms = some sts) : 1 ≤ sts.length ∧ sts.length ≤ 300000 := by
  have ep := edge_pos ss wf.v2
  have ele := edge_le wf
  unfold certOf at h
  dsimp only at h
  split at h
  · rename_i hc
    injection h with h
    have l := cover_len (ss := ss) (ms := ms) (N := edgeN ss ms) (edgeN ss ms).toNat 0
    have z := (cov_cover (ss := ss) (ms := ms) (N := edgeN ss ms) (edgeN ss ms).toNat 0).1
    rw [h] at l z
    refine ⟨?_, by omega⟩
    cases sts with
    | nil =>
      have z : some (0 : Int) = some _ := z
      injection z with z
      omega
    | cons x xs => simp
  · cases h
theorem Steps.DV {K : PySem.W.Frag} {H : Hp} {d : Nat} : ∀ {sts : List (Str × Int)} {xs ys : List V}, Al (StepR K H) xs sts → Al (StepR K H) ys sts → Al (DV K (d + 1) H) xs ys
  | [], _, _, .nil, .nil => .nil
  | st :: sts, _, _, .cons r t, .cons r' t' => by
    obtain ⟨a, rfl, ha⟩ := r
    obtain ⟨b, rfl, hb⟩ := r'
    refine .cons (DV.tup ha hb (DV.diag fun x hx => ?_) (by simp)) (Steps.DV t t')
    simp only [List.mem_cons, List.not_mem_nil, or_false] at hx
    rcases hx with rfl | rfl
    · exact flat_s _
    · exact flat_int _
theorem CertR.same {K : PySem.W.Frag} {H : Hp} {d : Nat} {v w : V} {z : Option (List (Str × Int))} (hz : ∀ sts, z = some sts → sts.length ≤ 300000) (h : CertR K H v z) (h' : CertR K H w z) : DV K (d + 2) H v w := by
  cases z with
  | none =>
    have h : v = .non := h
    have h' : w = .non := h'
    subst h h'
    exact DV.fl (.inl rfl)
  | some sts =>
    obtain ⟨a, xs, rfl, ha, ra⟩ := h
    obtain ⟨b, ys, rfl, hb, rb⟩ := h'
    have := hz sts rfl
    exact DV.tup ha hb (Steps.DV ra rb) (by rw [ra.len]; omega)
theorem CertR.keep {K : PySem.W.Frag} {m : List Addr} {H H' : Hp} {v : V} {z : Option (List (Str × Int))} (k : Keep m H H') (h : CertR K H v z) : CertR K H' v z := by
  cases z with
  | none => exact h
  | some sts =>
    obtain ⟨a, xs, rfl, ha, ra⟩ := h
    exact ⟨a, xs, rfl, k.sqT ha, Steps.keep k ra⟩
/-- whether the numbers are said -/
def posL (ss : List SR) (ms : List MR) (N : Nat) : List Bool := (List.range N).map fun (k : Nat) => decide (0 < ways ss ms ((k : Int) + 1))
theorem posL_snoc (ss : List SR) (ms : List MR) (N : Nat) : posL ss ms (N + 1) = posL ss ms N ++ [decide (0 < ways ss ms ((N : Int) + 1))] := by
  unfold posL
  rw [List.range_succ, List.map_append]
  rfl
theorem pos_whole {ss : List SR} {ms : List MR} (wf : Wf ss ms) : (posL ss ms (edgeN ss ms).toNat).all id = (certOf ss ms).isSome := by
  rw [Bool.eq_iff_iff, cert_whole wf, List.all_eq_true]
  unfold posL
  constructor
  · intro h n h1 h2
    have := h (decide (0 < ways ss ms (((n - 1).toNat : Int) + 1))) (List.mem_map.mpr ⟨(n - 1).toNat, List.mem_range.mpr (by omega), rfl⟩)
    rw [show (((n - 1).toNat : Int) + 1) = n by omega] at this
    simpa using this
  · intro h x hx
    obtain ⟨i, hi, rfl⟩ := List.mem_map.mp hx
    rw [List.mem_range] at hi
    simpa using h ((i : Int) + 1) (by omega) (by omega)
/-- lists of the items, beside D -/
def LRow (D : Addr) (H : Hp) (x : V) (d : List V) : Prop := ∃ a, x = .ref a ∧ a ≠ D ∧ H a = some (.lst d)
theorem LRows.keep {D : Addr} {m : List Addr} {H H' : Hp} {xs : List V} {ds : List (List V)} (hm : ∀ b ∈ m, b = D) (k : Keep m H H') (h : Al (LRow D H) xs ds) : Al (LRow D H') xs ds :=
  h.imp fun _ _ ⟨a, e, n, s⟩ => ⟨a, e, n, k.at s fun z => n (hm a z)⟩
section
variable {P : Program} {w : World} {K : PySem.W.Frag} {mg : Str → Option Value} {base : Heap}
theorem ok_law (T : Txt K mg) {f : Addr} {fd : FuncData} (F : Fun K "law" "law" s_law f fd) : FnOk P w K mg base CX0 LV f fd ["_law_script"] (spLaw K) := by
  refine F.ok (k := 199) sc_law (fun vs H Q E h => ?_) (fun cdv A outer s H vs Q E hr h => ?_)
  · obtain ⟨a, ns, rfl, _⟩ := h
    rfl
  · obtain ⟨a0, ns, rfl, hS, hl, k⟩ := h
    refine ⟨_, (pss_cons (ps_set (i := 1) sc_law.nd rfl (Or.inl rfl) (pe_cal (c_l_pool T) hr (by omega) rfl pass0 (pa_cons (pv 0) pa_nil)))
      (pss_cons (ps_set (i := 2) sc_law.nd rfl (Or.inr rfl) (pe_cal (c_l_turned T) hr (by omega) rfl pass0 (pa_cons (pv 1) (pa_cons (pe_cal (c_l_small T) hr (by omega) rfl pass0 (pa_cons (pv 1) pa_nil)) pa_nil))))
      (pss_cons (ps_set (i := 3) sc_law.nd rfl (Or.inl rfl) (pe_cal (c_l_made T) hr (by omega) rfl pass0 (pa_cons (pv 1) (pa_cons (pv 2) pa_nil))))
      (pss_cons (ps_set (i := 4) sc_law.nd rfl (Or.inl rfl) (pe_cal (c_l_due T) hr (by omega) rfl pass0 (pa_cons (pv 2) pa_nil)))
      (pss_cons (ps_set (i := 5) sc_law.nd rfl (Or.inl rfl) (pe_cal (c_certificate T) hr (by omega) rfl pass0 (pa_cons (pv 3) pa_nil)))
      (pss_cons (ps_if (pt_not (k_tr K rfl (pe_cal (c_l_same T 3) hr (by omega) rfl pass0 (pa_cons (pv 5) (pa_cons (pv 4) pa_nil))))) (pss_one (ps_ret pe_bl)) pss_nil)
      (pss_cons (ps_set (i := 6) sc_law.nd rfl (Or.inr rfl) pe_dnewK)
      (pss_cons (ps_set (i := 7) sc_law.nd rfl (Or.inl rfl) (pe_callB (k_all K rfl rfl) rfl T.b_all (by decide +kernel) (pa_cons (pe_lc (own := [("_law_number", 8)]) (g := (gName 8)) (tt := tYes) rfl sc_law.nd (pi_range2 rfl T.b_range (pa_cons pe_int (pa_cons (pe_op (k_add K rfl) (pe_cal (c_l_edge T) hr (by omega) rfl pass0 (pa_cons (pv 2) pa_nil)) pe_int) pa_nil))) (blkOk_by (N := ["_law_script", "_law_pool_here", "_law_rows_here", "_law_system", "_law_due_here", "_law_told", "_law_known", "_law_is_whole", "_law_number", "_law_step"]) (sc := defScope s_law) (by decide +kernel)) (fun _ _ _ _ _ => (pg_name (i := 8) sc_law.nd rfl (Or.inl rfl))) (fun _ _ _ _ _ => pts_nil) (fun _ _ _ _ _ => (pe_cmpR (o_gt) (pe_cal (c_l_count T) hr (by omega) rfl pass0 (pa_cons (pv 2) (pa_cons (pv 8) (pa_cons (pv 6) pa_nil)))) pe_int (nomark _)))) pa_nil)))
      (pss_cons (ps_if (pt_cmpR (k_ne K rfl hr) (pv 7) (pe_cmpR o_notN (pv 4) pe_non (nomark _)) (nomark _)) (pss_one (ps_ret pe_bl)) pss_nil)
      (pss_cons (ps_if (pt_cmpR o_isN (pv 4) pe_non (nomark _)) (pss_one (ps_ret (pe_cmpR o_isB (pe_cal (c_is_certificate T) hr (by omega) rfl pass0 (pa_cons (pv 3) (pa_cons (pe_tup pa_nil) pa_nil))) pe_bl (nomark _)))) pss_nil)
      (pss_cons (ps_if (PW.pt (pw_or (pt_cmpR o_notB (pe_cal (c_is_certificate T) hr (by omega) rfl pass0 (pa_cons (pv 3) (pa_cons (pv 4) pa_nil))) pe_bl (nomark _)) (pw_or1 (pt_cmpR o_notB (pe_cal (c_is_certificate T) hr (by omega) rfl pass0 (pa_cons (pv 3) (pa_cons (pe_lc (own := [("_law_step", 9)]) (g := (gName 9)) (tt := tYes) rfl sc_law.nd (k_sq K rfl (pv 4)) (blkOk_by (N := ["_law_script", "_law_pool_here", "_law_rows_here", "_law_system", "_law_due_here", "_law_told", "_law_known", "_law_is_whole", "_law_number", "_law_step"]) (sc := defScope s_law) (by decide +kernel)) (fun _ _ _ _ _ => (pg_name (i := 9) sc_law.nd rfl (Or.inl rfl))) (fun _ _ _ _ _ => pts_nil) (fun _ _ _ _ _ => (pe_callTy (k_lst K rfl) rfl T.b_list (by decide +kernel) (pa_cons (pv 9) pa_nil)))) pa_nil))) pe_bl (nomark _))))) (pss_one (ps_ret pe_bl)) pss_nil)
      (pss_one (ps_ret (pe_cmpR o_isB (pe_cal (c_is_certificate T) hr (by omega) rfl pass0 (pa_cons (pv 3) (pa_cons (pe_slice (k_sl K rfl) (pv 4) po_none (po_some (pe_cal (c_l_take T) hr (by omega) rfl pass0 (pa_cons (pv 1) (pa_cons (pe_callB (k_len K rfl) rfl T.b_len (by decide +kernel) (pa_cons (pv 4) pa_nil)) pa_nil))))) pa_nil))) pe_bl (nomark _))))))))))))))), ?_⟩
    refine i_st (σ' := [some _, none, none, none, none, none, none, none, none, none]) rfl ?_
    walk_at "go"
    refine ⟨a0, ns, rfl, hS, hl, fun t p c H1 hp hc k1 P1 ht => ?_⟩
    walk_at "go"
    refine spRows.use P1 fun ss0 ms0 d0 a0' b0 H2 R2 wf0 hd0 ha0 hb0 k2 P2 => ?_
    have np0 := (P1.off hd0).1
    have nap0 := (P1.off ha0).1
    have nbp0 := (P1.off hb0).1
    walk_at "go"
    refine ⟨t, p, c, d0, a0', b0, ss0, ms0, rfl, P2, R2, np0, nap0, nbp0, wf0.1, wf0.2, fun ss ms d a b H3 R3 wf3 hd ha hb k3 P3 => ?_⟩
    obtain ⟨⟨wf, wv⟩, wb⟩ := wf3
    have np := (P2.off hd).1
    have nap := (P2.off ha).1
    have nbp := (P2.off hb).1
    walk_at "go"
    refine ⟨t, p, c, d, a, b, ss, ms, rfl, P3, R3, nap, nbp, np, wf, fun o H4 ho k4 P4 S4 => ?_⟩
    have R4 := R3.keep k4 (by simp [np]) (by simp [nap]) (by simp [nbp])
    walk_at "go"
    refine ⟨d, a, b, ss, ms, rfl, R4, wf, fun v1 H5 k5 c1 => ?_⟩
    have R5 := R4.keep k5 (by simp) (by simp) (by simp)
    have S5 := S4.keep k5 (by simp)
    have P5 := P4.keep k5 (by simp) (by simp)
    walk_at "go"
    refine ⟨o, _, ss, ms, rfl, S5, wf, fun v2 H6 k6 c2 => ?_⟩
    have R6 := R5.keep k6 (by simp) (by simp) (by simp)
    have S6 := S5.keep k6 (by simp)
    have P6 := P5.keep k6 (by simp) (by simp)
    have c1 := CertR.keep k6 c1
    walk_at "go"
    refine ⟨v2, v1, rfl, CertR.same (fun sts h => (cert_len wf h).2) c2 c1, fun H7 k7 => ?_⟩
    have R7 := R6.keep k7 (by simp) (by simp) (by simp)
    have S7 := S6.keep k7 (by simp)
    have P7 := P6.keep k7 (by simp) (by simp)
    have c1 := CertR.keep k7 c1
    clear c2
    walk_at "go"
    refine i_dnewK fun kd H8 hkd k8 e8 => ?_
    have R8 := R7.keep k8 (by simp) (by simp) (by simp)
    have S8 := (S7.fresh hkd).keep k8 (by simp)
    have P8 := P7.keep k8 (by simp) (by simp)
    have c1 := CertR.keep k8 c1
    have nkp := (P7.off hkd).1
    have hdk : d ≠ kd := ne_of_none R7.dict hkd
    have hak : a ≠ kd := by obtain ⟨_, e, _⟩ := R7.sl; exact ne_of_none e hkd
    have hbk : b ≠ kd := by obtain ⟨_, e, _⟩ := R7.ml; exact ne_of_none e hkd
    have nkc := (P7.off hkd).2
    have b0 := bnd_nn ss ms
    have ep := edge_pos ss wf.v2
    have g2 : edgeN ss ms ≤ 5000 := by
      unfold edgeN
      cases he : endl ms with
      | none => dsimp only; omega
      | some m =>
        have := wv m (endl_mem he)
        have := (wf.mo m (endl_mem he)).2.1
        dsimp only
        omega
    walk_at "go"
    refine ⟨d, a, b, ss, ms, rfl, R8, wf, fun H9 k9 => ?_⟩
    have R9 := R8.keep k9 (by simp) (by simp) (by simp)
    have S9 := S8.keep k9 (by simp)
    have P9 := P8.keep k9 (by simp) (by simp)
    have c1 := CertR.keep k9 c1
    have e9 : H9 kd = some (.dK []) := k9.at e8 (by simp)
    walk_at "go"
    rw [show edgeN ss ms + 1 - 1 = edgeN ss ms by omega]
    refine i_lcW walk_range (fun D j acc H' => Keep [kd] H9 H' ∧ H' kd = some (.dK (knL ss ms j)) ∧ acc = (posL ss ms j).map V.bl) (by walk_at "st") ?_ ?_ ?_ ?_
    · exact fun D H' _ kp _ => ⟨kp.wid0, kp.at e9 (by simp), rfl⟩
    · exact fun D j acc H' _ _ _ f => trivial
    · rintro D j x acc H10 H11 hj hD eD lD ⟨kD, fD, rfl⟩ ⟨rfl, rfl⟩
      have nDk : D ≠ kd := fun z => by subst z; rw [e9] at hD; cases hD
      walk_at "go"
      refine ⟨rfl, ?_⟩
      walk_at "go"
      refine ⟨d, a, b, kd, 1 + (j : Int), j, ss, ms, rfl, R9.keep kD (by simp [hdk]) (by simp [hak]) (by simp [hbk]), wf, fD, hdk, by omega, by omega, by omega, fun H12 k12 e12 => ?_⟩
      walk_at "go"
      refine i_lcY (k12.at eD (by simp [nDk])) lD (by omega) fun H13 k13 e13 => ⟨?_, ?_, ?_⟩
      · exact (by walk_at "kp" : Keep [D, kd] H9 H13).cut hD
      · rw [show max j (1 + (j : Int)).toNat = j + 1 by omega] at e12
        exact k13.at e12 (by simp [Ne.symm nDk])
      · rw [posL_snoc, Int.add_comm 1, List.map_append]
        rfl
    rintro D acc H10 hD eD lD ⟨k10, e10, rfl⟩
    have R10 := R9.keep k10 (by simp [hdk]) (by simp [hak]) (by simp [hbk])
    have S10 := S9.keep k10 (by simp)
    have P10 := P9.keep k10 (by simp [Ne.symm nkp]) (by simp [Ne.symm nkc])
    have c1 := CertR.keep k10 c1
    have e11 : SqL K H10 D _ := SqL.of eD
    walk_at "go"
    refine ⟨D, _, rfl, e11, ?_⟩
    rw [pos_whole wf]
    cases hz : certOf ss ms with
    | none =>
      rw [hz] at c1
      have c1 : v1 = .non := c1
      subst c1
      walk_at "go"
      refine i_negB (by rfl) ?_
      walk_at "go"
      rename_i T0 H11 hT0 k11 e12
      refine ⟨o, _, [], ss, ms, .ref T0, [], rfl, S10.keep k11 (by simp), wf, ⟨T0, [], rfl, .inl (SqT.of e12), .nil⟩, by simp, fun H12 k12 => ?_⟩
      rw [due_nil wf]
      walk_at "go"
      exact k H12
    | some sts =>
      rw [hz] at c1
      obtain ⟨t1, xs1, rfl, ht1, r1⟩ := c1
      obtain ⟨l1, l2⟩ := cert_len wf hz
      have lx1 := r1.len
      walk_at "go"
      refine i_negB (by rfl) ?_
      walk_at "go"
      refine ⟨o, _, [], ss, ms, .ref t1, sts, rfl, S10, wf, ⟨t1, xs1, rfl, .inl ht1, (Steps.T r1).imp fun x d ⟨r, e, h⟩ => ⟨r, e, .inl h⟩⟩, by omega, fun H11 k11 => ?_⟩
      rw [cert_due wf hz]
      have ht11 := k11.sqT ht1
      have r11 := Steps.keep k11 r1
      have S11 := S10.keep k11 (by simp)
      have P11 := P10.keep k11 (by simp) (by simp)
      walk_at "go"
      refine i_negB (by rfl) ?_
      walk_at "go"
      refine i_lcW (walk_tup (xs := xs1)) (fun D j acc H' => Keep [] H11 H' ∧ Al (LRow D H') acc ((sts.take j).map sT)) (by walk_at "st") ?_ ?_ ?_ ?_
      · exact fun D H' _ kp _ => ⟨kp, .nil⟩
      · exact fun D j acc H' _ _ _ f => f.1.sqT ht11
      · rintro D2 j x acc H12 H13 hj hD2 eD2 lD2 ⟨kD, fD⟩ ⟨rfl, hx⟩
        obtain ⟨st, hst, ⟨r, rfl, hr'⟩⟩ := r11.get hx
        have hr2 : SqT K H13 r _ := kD.sqT hr'
        walk_at "go"
        refine ⟨rfl, ?_⟩
        walk_at "go"
        refine i_lstT hr2 fun l3 H14 hl3 k14 e14 => ?_
        have nlD : D2 ≠ l3 := ne_of_none eD2 hl3
        refine i_lcY (k14.at eD2 (by simp)) lD2 (by omega) fun H15 k15 e15 => ⟨((kD.trans k14).wid0.trans k15).cut hD2, ?_⟩
        rw [take_snoc hst, List.map_append]
        exact (LRows.keep (by simp) k15 (LRows.keep (by simp) k14 fD)).snoc ⟨l3, rfl, Ne.symm nlD, k15.at e14 (by simp [Ne.symm nlD])⟩
      rintro D2 acc H12 hD2 eD2 lD2 ⟨k12, fD⟩
      rw [lx1, List.take_length] at fD
      walk_at "go"
      refine ⟨o, _, [], ss, ms, .ref D2, sts, rfl, S11.keep k12 (by simp), wf, ⟨D2, acc, rfl, .inr ⟨eD2, by simp⟩, fD.imp fun x d ⟨r, e, _, h⟩ => ⟨r, e, .inr ⟨h, by simp⟩⟩⟩, by omega, fun H13 k13 => ?_⟩
      rw [cert_due wf hz]
      have ht13 := k13.sqT (k12.sqT ht11)
      have r13 := Steps.keep k13 (Steps.keep k12 r11)
      have S13 := (S11.keep k12 (by simp)).keep k13 (by simp)
      have P13 := (P11.keep k12 (by simp) (by simp)).keep k13 (by simp) (by simp)
      walk_at "go"
      refine i_negB (by rfl) ?_
      walk_at "go"
      rename_i j H14 j0 j1 k14 P14
      refine i_slT (k14.sqT ht13) fun q H15 k15 e15 => ?_
      rw [cut_to _ j0] at e15
      walk_at "go"
      refine ⟨o, _, [], ss, ms, .ref q, sts.take j.toNat, rfl, (S13.keep k14 (by simp [nkp])).keep k15 (by simp), wf, ⟨q, _, rfl, .inl e15, (Steps.T ((Steps.keep k15 (Steps.keep k14 r13)).take j.toNat)).imp fun x d ⟨r, e, h⟩ => ⟨r, e, .inl h⟩⟩, by simp; omega, fun H16 k16 => ?_⟩
      rw [cert_short hz (by omega)]
      walk_at "go"
      exact k H16
end
theorem end_mk {P : Program} {w : World} {K : PySem.W.Frag} {h : Heap} {mg : Str → Option Value} {fa : Addr} (X : K.In h) (G : h.Ns mainGlobals mg) (hfa : mg "law" = some (.ref fa))
    {C_System : Addr}
    {C_Cover : Addr}
    {t_MOST_LETTERS : Tok}
    {t_LETTERS : Tok}
    {t_MOST_VALUE : Tok}
    {t_MOST_SIMPLE : Tok}
    {t_MOST_MULTIPLIERS : Tok}
    {f_l_pool : Addr} {od_l_pool an_l_pool : Option Addr} {sl_l_pool : Array (Option Value)} {oc_l_pool kV_l_pool dc_l_pool pm_l_pool cd_l_pool ct_l_pool : Value}
    {f_l_take : Addr} {od_l_take an_l_take : Option Addr} {sl_l_take : Array (Option Value)} {oc_l_take kV_l_take dc_l_take pm_l_take cd_l_take ct_l_take : Value}
    {f_l_turned : Addr} {od_l_turned an_l_turned : Option Addr} {sl_l_turned : Array (Option Value)} {oc_l_turned kV_l_turned dc_l_turned pm_l_turned cd_l_turned ct_l_turned : Value}
    {f_is_word : Addr} {od_is_word an_is_word : Option Addr} {sl_is_word : Array (Option Value)} {oc_is_word kV_is_word dc_is_word pm_is_word cd_is_word ct_is_word : Value}
    {f_simple_fault : Addr} {od_simple_fault an_simple_fault : Option Addr} {sl_simple_fault : Array (Option Value)} {oc_simple_fault kV_simple_fault dc_simple_fault pm_simple_fault cd_simple_fault ct_simple_fault : Value}
    {f_multiplier_fault : Addr} {od_multiplier_fault an_multiplier_fault : Option Addr} {sl_multiplier_fault : Array (Option Value)} {oc_multiplier_fault kV_multiplier_fault dc_multiplier_fault pm_multiplier_fault cd_multiplier_fault ct_multiplier_fault : Value}
    {f_check_rows : Addr} {od_check_rows an_check_rows : Option Addr} {sl_check_rows : Array (Option Value)} {oc_check_rows kV_check_rows dc_check_rows pm_check_rows cd_check_rows ct_check_rows : Value}
    {f_check_words : Addr} {od_check_words an_check_words : Option Addr} {sl_check_words : Array (Option Value)} {oc_check_words kV_check_words dc_check_words pm_check_words cd_check_words ct_check_words : Value}
    {f_check_endless : Addr} {od_check_endless an_check_endless : Option Addr} {sl_check_endless : Array (Option Value)} {oc_check_endless kV_check_endless dc_check_endless pm_check_endless cd_check_endless ct_check_endless : Value}
    {f_System_init : Addr} {od_System_init an_System_init : Option Addr} {sl_System_init : Array (Option Value)} {oc_System_init kV_System_init dc_System_init pm_System_init cd_System_init ct_System_init : Value}
    {f_l_shaped : Addr} {od_l_shaped an_l_shaped : Option Addr} {sl_l_shaped : Array (Option Value)} {oc_l_shaped kV_l_shaped dc_l_shaped pm_l_shaped cd_l_shaped ct_l_shaped : Value}
    {f_l_made : Addr} {od_l_made an_l_made : Option Addr} {sl_l_made : Array (Option Value)} {oc_l_made kV_l_made dc_l_made pm_l_made cd_l_made ct_l_made : Value}
    {f_l_endless : Addr} {od_l_endless an_l_endless : Option Addr} {sl_l_endless : Array (Option Value)} {oc_l_endless kV_l_endless dc_l_endless pm_l_endless cd_l_endless ct_l_endless : Value}
    {f_l_bounded : Addr} {od_l_bounded an_l_bounded : Option Addr} {sl_l_bounded : Array (Option Value)} {oc_l_bounded kV_l_bounded dc_l_bounded pm_l_bounded cd_l_bounded ct_l_bounded : Value}
    {f_l_edge : Addr} {od_l_edge an_l_edge : Option Addr} {sl_l_edge : Array (Option Value)} {oc_l_edge kV_l_edge dc_l_edge pm_l_edge cd_l_edge ct_l_edge : Value}
    {f_l_looked : Addr} {od_l_looked an_l_looked : Option Addr} {sl_l_looked : Array (Option Value)} {oc_l_looked kV_l_looked dc_l_looked pm_l_looked cd_l_looked ct_l_looked : Value}
    {f_l_reach : Addr} {od_l_reach an_l_reach : Option Addr} {sl_l_reach : Array (Option Value)} {oc_l_reach kV_l_reach dc_l_reach pm_l_reach cd_l_reach ct_l_reach : Value}
    {f_l_due : Addr} {od_l_due an_l_due : Option Addr} {sl_l_due : Array (Option Value)} {oc_l_due kV_l_due dc_l_due pm_l_due cd_l_due ct_l_due : Value}
    {f_Cover_init : Addr} {od_Cover_init an_Cover_init : Option Addr} {sl_Cover_init : Array (Option Value)} {oc_Cover_init kV_Cover_init dc_Cover_init pm_Cover_init cd_Cover_init ct_Cover_init : Value}
    {f_System_bounded_maximum : Addr} {od_System_bounded_maximum an_System_bounded_maximum : Option Addr} {sl_System_bounded_maximum : Array (Option Value)} {oc_System_bounded_maximum kV_System_bounded_maximum dc_System_bounded_maximum pm_System_bounded_maximum cd_System_bounded_maximum ct_System_bounded_maximum : Value}
    {f_System_endless : Addr} {od_System_endless an_System_endless : Option Addr} {sl_System_endless : Array (Option Value)} {oc_System_endless kV_System_endless dc_System_endless pm_System_endless cd_System_endless ct_System_endless : Value}
    {f_bound : Addr} {od_bound an_bound : Option Addr} {sl_bound : Array (Option Value)} {oc_bound kV_bound dc_bound pm_bound cd_bound ct_bound : Value}
    {f_Cover_steps : Addr} {od_Cover_steps an_Cover_steps : Option Addr} {sl_Cover_steps : Array (Option Value)} {oc_Cover_steps kV_Cover_steps dc_Cover_steps pm_Cover_steps cd_Cover_steps ct_Cover_steps : Value}
    {f_System_simple_value : Addr} {od_System_simple_value an_System_simple_value : Option Addr} {sl_System_simple_value : Array (Option Value)} {oc_System_simple_value kV_System_simple_value dc_System_simple_value pm_System_simple_value cd_System_simple_value ct_System_simple_value : Value}
    {f_System_multiplier : Addr} {od_System_multiplier an_System_multiplier : Option Addr} {sl_System_multiplier : Array (Option Value)} {oc_System_multiplier kV_System_multiplier dc_System_multiplier pm_System_multiplier cd_System_multiplier ct_System_multiplier : Value}
    {f_Cover_is_count : Addr} {od_Cover_is_count an_Cover_is_count : Option Addr} {sl_Cover_is_count : Array (Option Value)} {oc_Cover_is_count kV_Cover_is_count dc_Cover_is_count pm_Cover_is_count cd_Cover_is_count ct_Cover_is_count : Value}
    {f_Cover_reach : Addr} {od_Cover_reach an_Cover_reach : Option Addr} {sl_Cover_reach : Array (Option Value)} {oc_Cover_reach kV_Cover_reach dc_Cover_reach pm_Cover_reach cd_Cover_reach ct_Cover_reach : Value}
    {f_Cover_simple_reach : Addr} {od_Cover_simple_reach an_Cover_simple_reach : Option Addr} {sl_Cover_simple_reach : Array (Option Value)} {oc_Cover_simple_reach kV_Cover_simple_reach dc_Cover_simple_reach pm_Cover_simple_reach cd_Cover_simple_reach ct_Cover_simple_reach : Value}
    {f_Cover_step_reach : Addr} {od_Cover_step_reach an_Cover_step_reach : Option Addr} {sl_Cover_step_reach : Array (Option Value)} {oc_Cover_step_reach kV_Cover_step_reach dc_Cover_step_reach pm_Cover_step_reach cd_Cover_step_reach ct_Cover_step_reach : Value}
    {f_Cover_best : Addr} {od_Cover_best an_Cover_best : Option Addr} {sl_Cover_best : Array (Option Value)} {oc_Cover_best kV_Cover_best dc_Cover_best pm_Cover_best cd_Cover_best ct_Cover_best : Value}
    {f_Cover_take : Addr} {od_Cover_take an_Cover_take : Option Addr} {sl_Cover_take : Array (Option Value)} {oc_Cover_take kV_Cover_take dc_Cover_take pm_Cover_take cd_Cover_take ct_Cover_take : Value}
    {f_covering : Addr} {od_covering an_covering : Option Addr} {sl_covering : Array (Option Value)} {oc_covering kV_covering dc_covering pm_covering cd_covering ct_covering : Value}
    {f_certificate : Addr} {od_certificate an_certificate : Option Addr} {sl_certificate : Array (Option Value)} {oc_certificate kV_certificate dc_certificate pm_certificate cd_certificate ct_certificate : Value}
    {f_l_word : Addr} {od_l_word an_l_word : Option Addr} {sl_l_word : Array (Option Value)} {oc_l_word kV_l_word dc_l_word pm_l_word cd_l_word ct_l_word : Value}
    {f_l_drawn : Addr} {od_l_drawn an_l_drawn : Option Addr} {sl_l_drawn : Array (Option Value)} {oc_l_drawn kV_l_drawn dc_l_drawn pm_l_drawn cd_l_drawn ct_l_drawn : Value}
    {f_l_regular : Addr} {od_l_regular an_l_regular : Option Addr} {sl_l_regular : Array (Option Value)} {oc_l_regular kV_l_regular dc_l_regular pm_l_regular cd_l_regular ct_l_regular : Value}
    {f_l_nearly : Addr} {od_l_nearly an_l_nearly : Option Addr} {sl_l_nearly : Array (Option Value)} {oc_l_nearly kV_l_nearly dc_l_nearly pm_l_nearly cd_l_nearly ct_l_nearly : Value}
    {f_l_english : Addr} {od_l_english an_l_english : Option Addr} {sl_l_english : Array (Option Value)} {oc_l_english kV_l_english dc_l_english pm_l_english cd_l_english ct_l_english : Value}
    {f_l_rows : Addr} {od_l_rows an_l_rows : Option Addr} {sl_l_rows : Array (Option Value)} {oc_l_rows kV_l_rows dc_l_rows pm_l_rows cd_l_rows ct_l_rows : Value}
    {f_l_small : Addr} {od_l_small an_l_small : Option Addr} {sl_l_small : Array (Option Value)} {oc_l_small kV_l_small dc_l_small pm_l_small cd_l_small ct_l_small : Value}
    {f_l_is_integer : Addr} {od_l_is_integer an_l_is_integer : Option Addr} {sl_l_is_integer : Array (Option Value)} {oc_l_is_integer kV_l_is_integer dc_l_is_integer pm_l_is_integer cd_l_is_integer ct_l_is_integer : Value}
    {f_l_same : Addr} {od_l_same an_l_same : Option Addr} {sl_l_same : Array (Option Value)} {oc_l_same kV_l_same dc_l_same pm_l_same cd_l_same ct_l_same : Value}
    {f_is_certificate : Addr} {od_is_certificate an_is_certificate : Option Addr} {sl_is_certificate : Array (Option Value)} {oc_is_certificate kV_is_certificate dc_is_certificate pm_is_certificate cd_is_certificate ct_is_certificate : Value}
    {f_l_count : Addr} {od_l_count an_l_count : Option Addr} {sl_l_count : Array (Option Value)} {oc_l_count kV_l_count dc_l_count pm_l_count cd_l_count ct_l_count : Value}
    {f_law : Addr} {od_law an_law : Option Addr} {sl_law : Array (Option Value)} {oc_law kV_law dc_law pm_law cd_law ct_law : Value}
    (z_len : PySem.W.nsIn K mainGlobals "len" = some none)
    (z_int : PySem.W.nsIn K mainGlobals "int" = some none)
    (z_list : PySem.W.nsIn K mainGlobals "list" = some none)
    (z_range : PySem.W.nsIn K mainGlobals "range" = some none)
    (z_all : PySem.W.nsIn K mainGlobals "all" = some none)
    (z_enumerate : PySem.W.nsIn K mainGlobals "enumerate" = some none)
    (z_tuple : PySem.W.nsIn K mainGlobals "tuple" = some none)
    (z_max : PySem.W.nsIn K mainGlobals "max" = some none)
    (z_min : PySem.W.nsIn K mainGlobals "min" = some none)
    (z_sum : PySem.W.nsIn K mainGlobals "sum" = some none)
    (z_any : PySem.W.nsIn K mainGlobals "any" = some none)
    (z_isinstance : PySem.W.nsIn K mainGlobals "isinstance" = some none)
    (z_bool : PySem.W.nsIn K mainGlobals "bool" = some none)
    (z_str : PySem.W.nsIn K mainGlobals "str" = some none)
    (a_MOST_LETTERS : PySem.W.nsIn K mainGlobals "MOST_LETTERS" = some (some (.int 8 t_MOST_LETTERS)))
    (a_LETTERS : PySem.W.nsIn K mainGlobals "LETTERS" = some (some (.str "abcdefghijklmnopqrstuvwxyz" t_LETTERS)))
    (a_MOST_VALUE : PySem.W.nsIn K mainGlobals "MOST_VALUE" = some (some (.int 100000 t_MOST_VALUE)))
    (a_MOST_SIMPLE : PySem.W.nsIn K mainGlobals "MOST_SIMPLE" = some (some (.int 24 t_MOST_SIMPLE)))
    (a_MOST_MULTIPLIERS : PySem.W.nsIn K mainGlobals "MOST_MULTIPLIERS" = some (some (.int 6 t_MOST_MULTIPLIERS)))
    (aC_System : PySem.W.nsIn K mainGlobals "System" = some (some (.ref C_System)))
    (pg_System : PySem.W.plainGet K C_System Str.empty = true)
    (hd_System : PySem.W.hasDictIn K C_System = true)
    (po_System : PySem.W.plainOver K C_System = true)
    (sa_System : PySem.W.findIn K (.ref C_System) "__setattr__" = some (some (.builtin "object.__setattr__")))
    (mk_System : PySem.W.makesIn K C_System = true)
    (kc_System : PySem.W.keepIn K (.ref C_System) = true)
    (n_System_simple : PySem.W.findIn K (.ref C_System) "simple" = some none)
    (n_System_multipliers : PySem.W.findIn K (.ref C_System) "multipliers" = some none)
    (n_System__values : PySem.W.findIn K (.ref C_System) "_values" = some none)
    (n_System__rows : PySem.W.findIn K (.ref C_System) "_rows" = some none)
    (aC_Cover : PySem.W.nsIn K mainGlobals "Cover" = some (some (.ref C_Cover)))
    (pg_Cover : PySem.W.plainGet K C_Cover Str.empty = true)
    (hd_Cover : PySem.W.hasDictIn K C_Cover = true)
    (po_Cover : PySem.W.plainOver K C_Cover = true)
    (sa_Cover : PySem.W.findIn K (.ref C_Cover) "__setattr__" = some (some (.builtin "object.__setattr__")))
    (mk_Cover : PySem.W.makesIn K C_Cover = true)
    (kc_Cover : PySem.W.keepIn K (.ref C_Cover) = true)
    (n_Cover_system : PySem.W.findIn K (.ref C_Cover) "system" = some none)
    (n_Cover_covered : PySem.W.findIn K (.ref C_Cover) "covered" = some none)
    (a_l_pool : PySem.W.nsIn K mainGlobals "_law_pool" = some (some (.ref f_l_pool)))
    (l_l_pool : K.lookup f_l_pool = some ⟨oc_l_pool, od_l_pool, .func (PySem.W.fnOf "_law_pool" "_law_pool" (defArgs s_l_pool) (defBody s_l_pool) (defScope s_l_pool) .none kV_l_pool dc_l_pool pm_l_pool an_l_pool cd_l_pool ct_l_pool), sl_l_pool⟩)
    (c_l_pool : PySem.W.codeIn K cd_l_pool "_law_pool" = true)
    (k_l_pool : PySem.W.keepIn K (.ref f_l_pool) = true)
    (a_l_take : PySem.W.nsIn K mainGlobals "_law_take" = some (some (.ref f_l_take)))
    (l_l_take : K.lookup f_l_take = some ⟨oc_l_take, od_l_take, .func (PySem.W.fnOf "_law_take" "_law_take" (defArgs s_l_take) (defBody s_l_take) (defScope s_l_take) .none kV_l_take dc_l_take pm_l_take an_l_take cd_l_take ct_l_take), sl_l_take⟩)
    (c_l_take : PySem.W.codeIn K cd_l_take "_law_take" = true)
    (k_l_take : PySem.W.keepIn K (.ref f_l_take) = true)
    (a_l_turned : PySem.W.nsIn K mainGlobals "_law_turned" = some (some (.ref f_l_turned)))
    (l_l_turned : K.lookup f_l_turned = some ⟨oc_l_turned, od_l_turned, .func (PySem.W.fnOf "_law_turned" "_law_turned" (defArgs s_l_turned) (defBody s_l_turned) (defScope s_l_turned) .none kV_l_turned dc_l_turned pm_l_turned an_l_turned cd_l_turned ct_l_turned), sl_l_turned⟩)
    (c_l_turned : PySem.W.codeIn K cd_l_turned "_law_turned" = true)
    (k_l_turned : PySem.W.keepIn K (.ref f_l_turned) = true)
    (a_is_word : PySem.W.nsIn K mainGlobals "is_word" = some (some (.ref f_is_word)))
    (l_is_word : K.lookup f_is_word = some ⟨oc_is_word, od_is_word, .func (PySem.W.fnOf "is_word" "is_word" (defArgs s_is_word) (defBody s_is_word) (defScope s_is_word) .none kV_is_word dc_is_word pm_is_word an_is_word cd_is_word ct_is_word), sl_is_word⟩)
    (c_is_word : PySem.W.codeIn K cd_is_word "is_word" = true)
    (k_is_word : PySem.W.keepIn K (.ref f_is_word) = true)
    (a_simple_fault : PySem.W.nsIn K mainGlobals "simple_fault" = some (some (.ref f_simple_fault)))
    (l_simple_fault : K.lookup f_simple_fault = some ⟨oc_simple_fault, od_simple_fault, .func (PySem.W.fnOf "simple_fault" "simple_fault" (defArgs s_simple_fault) (defBody s_simple_fault) (defScope s_simple_fault) .none kV_simple_fault dc_simple_fault pm_simple_fault an_simple_fault cd_simple_fault ct_simple_fault), sl_simple_fault⟩)
    (c_simple_fault : PySem.W.codeIn K cd_simple_fault "simple_fault" = true)
    (k_simple_fault : PySem.W.keepIn K (.ref f_simple_fault) = true)
    (a_multiplier_fault : PySem.W.nsIn K mainGlobals "multiplier_fault" = some (some (.ref f_multiplier_fault)))
    (l_multiplier_fault : K.lookup f_multiplier_fault = some ⟨oc_multiplier_fault, od_multiplier_fault, .func (PySem.W.fnOf "multiplier_fault" "multiplier_fault" (defArgs s_multiplier_fault) (defBody s_multiplier_fault) (defScope s_multiplier_fault) .none kV_multiplier_fault dc_multiplier_fault pm_multiplier_fault an_multiplier_fault cd_multiplier_fault ct_multiplier_fault), sl_multiplier_fault⟩)
    (c_multiplier_fault : PySem.W.codeIn K cd_multiplier_fault "multiplier_fault" = true)
    (k_multiplier_fault : PySem.W.keepIn K (.ref f_multiplier_fault) = true)
    (a_check_rows : PySem.W.nsIn K mainGlobals "check_rows" = some (some (.ref f_check_rows)))
    (l_check_rows : K.lookup f_check_rows = some ⟨oc_check_rows, od_check_rows, .func (PySem.W.fnOf "check_rows" "check_rows" (defArgs s_check_rows) (defBody s_check_rows) (defScope s_check_rows) .none kV_check_rows dc_check_rows pm_check_rows an_check_rows cd_check_rows ct_check_rows), sl_check_rows⟩)
    (c_check_rows : PySem.W.codeIn K cd_check_rows "check_rows" = true)
    (k_check_rows : PySem.W.keepIn K (.ref f_check_rows) = true)
    (a_check_words : PySem.W.nsIn K mainGlobals "check_words" = some (some (.ref f_check_words)))
    (l_check_words : K.lookup f_check_words = some ⟨oc_check_words, od_check_words, .func (PySem.W.fnOf "check_words" "check_words" (defArgs s_check_words) (defBody s_check_words) (defScope s_check_words) .none kV_check_words dc_check_words pm_check_words an_check_words cd_check_words ct_check_words), sl_check_words⟩)
    (c_check_words : PySem.W.codeIn K cd_check_words "check_words" = true)
    (k_check_words : PySem.W.keepIn K (.ref f_check_words) = true)
    (a_check_endless : PySem.W.nsIn K mainGlobals "check_endless" = some (some (.ref f_check_endless)))
    (l_check_endless : K.lookup f_check_endless = some ⟨oc_check_endless, od_check_endless, .func (PySem.W.fnOf "check_endless" "check_endless" (defArgs s_check_endless) (defBody s_check_endless) (defScope s_check_endless) .none kV_check_endless dc_check_endless pm_check_endless an_check_endless cd_check_endless ct_check_endless), sl_check_endless⟩)
    (c_check_endless : PySem.W.codeIn K cd_check_endless "check_endless" = true)
    (k_check_endless : PySem.W.keepIn K (.ref f_check_endless) = true)
    (a_System_init : PySem.W.findIn K (.ref C_System) "__init__" = some (some (.ref f_System_init)))
    (i_System_init : PySem.W.isFn K (.ref f_System_init) = true)
    (l_System_init : K.lookup f_System_init = some ⟨oc_System_init, od_System_init, .func (PySem.W.fnOf "__init__" "System.__init__" (defArgs s_System_init) (defBody s_System_init) (defScope s_System_init) .none kV_System_init dc_System_init pm_System_init an_System_init cd_System_init ct_System_init), sl_System_init⟩)
    (c_System_init : PySem.W.codeIn K cd_System_init "System.__init__" = true)
    (k_System_init : PySem.W.keepIn K (.ref f_System_init) = true)
    (a_l_shaped : PySem.W.nsIn K mainGlobals "_law_shaped" = some (some (.ref f_l_shaped)))
    (l_l_shaped : K.lookup f_l_shaped = some ⟨oc_l_shaped, od_l_shaped, .func (PySem.W.fnOf "_law_shaped" "_law_shaped" (defArgs s_l_shaped) (defBody s_l_shaped) (defScope s_l_shaped) .none kV_l_shaped dc_l_shaped pm_l_shaped an_l_shaped cd_l_shaped ct_l_shaped), sl_l_shaped⟩)
    (c_l_shaped : PySem.W.codeIn K cd_l_shaped "_law_shaped" = true)
    (k_l_shaped : PySem.W.keepIn K (.ref f_l_shaped) = true)
    (a_l_made : PySem.W.nsIn K mainGlobals "_law_made" = some (some (.ref f_l_made)))
    (l_l_made : K.lookup f_l_made = some ⟨oc_l_made, od_l_made, .func (PySem.W.fnOf "_law_made" "_law_made" (defArgs s_l_made) (defBody s_l_made) (defScope s_l_made) .none kV_l_made dc_l_made pm_l_made an_l_made cd_l_made ct_l_made), sl_l_made⟩)
    (c_l_made : PySem.W.codeIn K cd_l_made "_law_made" = true)
    (k_l_made : PySem.W.keepIn K (.ref f_l_made) = true)
    (a_l_endless : PySem.W.nsIn K mainGlobals "_law_endless" = some (some (.ref f_l_endless)))
    (l_l_endless : K.lookup f_l_endless = some ⟨oc_l_endless, od_l_endless, .func (PySem.W.fnOf "_law_endless" "_law_endless" (defArgs s_l_endless) (defBody s_l_endless) (defScope s_l_endless) .none kV_l_endless dc_l_endless pm_l_endless an_l_endless cd_l_endless ct_l_endless), sl_l_endless⟩)
    (c_l_endless : PySem.W.codeIn K cd_l_endless "_law_endless" = true)
    (k_l_endless : PySem.W.keepIn K (.ref f_l_endless) = true)
    (a_l_bounded : PySem.W.nsIn K mainGlobals "_law_bounded" = some (some (.ref f_l_bounded)))
    (l_l_bounded : K.lookup f_l_bounded = some ⟨oc_l_bounded, od_l_bounded, .func (PySem.W.fnOf "_law_bounded" "_law_bounded" (defArgs s_l_bounded) (defBody s_l_bounded) (defScope s_l_bounded) .none kV_l_bounded dc_l_bounded pm_l_bounded an_l_bounded cd_l_bounded ct_l_bounded), sl_l_bounded⟩)
    (c_l_bounded : PySem.W.codeIn K cd_l_bounded "_law_bounded" = true)
    (k_l_bounded : PySem.W.keepIn K (.ref f_l_bounded) = true)
    (a_l_edge : PySem.W.nsIn K mainGlobals "_law_edge" = some (some (.ref f_l_edge)))
    (l_l_edge : K.lookup f_l_edge = some ⟨oc_l_edge, od_l_edge, .func (PySem.W.fnOf "_law_edge" "_law_edge" (defArgs s_l_edge) (defBody s_l_edge) (defScope s_l_edge) .none kV_l_edge dc_l_edge pm_l_edge an_l_edge cd_l_edge ct_l_edge), sl_l_edge⟩)
    (c_l_edge : PySem.W.codeIn K cd_l_edge "_law_edge" = true)
    (k_l_edge : PySem.W.keepIn K (.ref f_l_edge) = true)
    (a_l_looked : PySem.W.nsIn K mainGlobals "_law_looked" = some (some (.ref f_l_looked)))
    (l_l_looked : K.lookup f_l_looked = some ⟨oc_l_looked, od_l_looked, .func (PySem.W.fnOf "_law_looked" "_law_looked" (defArgs s_l_looked) (defBody s_l_looked) (defScope s_l_looked) .none kV_l_looked dc_l_looked pm_l_looked an_l_looked cd_l_looked ct_l_looked), sl_l_looked⟩)
    (c_l_looked : PySem.W.codeIn K cd_l_looked "_law_looked" = true)
    (k_l_looked : PySem.W.keepIn K (.ref f_l_looked) = true)
    (a_l_reach : PySem.W.nsIn K mainGlobals "_law_reach" = some (some (.ref f_l_reach)))
    (l_l_reach : K.lookup f_l_reach = some ⟨oc_l_reach, od_l_reach, .func (PySem.W.fnOf "_law_reach" "_law_reach" (defArgs s_l_reach) (defBody s_l_reach) (defScope s_l_reach) .none kV_l_reach dc_l_reach pm_l_reach an_l_reach cd_l_reach ct_l_reach), sl_l_reach⟩)
    (c_l_reach : PySem.W.codeIn K cd_l_reach "_law_reach" = true)
    (k_l_reach : PySem.W.keepIn K (.ref f_l_reach) = true)
    (a_l_due : PySem.W.nsIn K mainGlobals "_law_due" = some (some (.ref f_l_due)))
    (l_l_due : K.lookup f_l_due = some ⟨oc_l_due, od_l_due, .func (PySem.W.fnOf "_law_due" "_law_due" (defArgs s_l_due) (defBody s_l_due) (defScope s_l_due) .none kV_l_due dc_l_due pm_l_due an_l_due cd_l_due ct_l_due), sl_l_due⟩)
    (c_l_due : PySem.W.codeIn K cd_l_due "_law_due" = true)
    (k_l_due : PySem.W.keepIn K (.ref f_l_due) = true)
    (a_Cover_init : PySem.W.findIn K (.ref C_Cover) "__init__" = some (some (.ref f_Cover_init)))
    (i_Cover_init : PySem.W.isFn K (.ref f_Cover_init) = true)
    (l_Cover_init : K.lookup f_Cover_init = some ⟨oc_Cover_init, od_Cover_init, .func (PySem.W.fnOf "__init__" "Cover.__init__" (defArgs s_Cover_init) (defBody s_Cover_init) (defScope s_Cover_init) .none kV_Cover_init dc_Cover_init pm_Cover_init an_Cover_init cd_Cover_init ct_Cover_init), sl_Cover_init⟩)
    (c_Cover_init : PySem.W.codeIn K cd_Cover_init "Cover.__init__" = true)
    (k_Cover_init : PySem.W.keepIn K (.ref f_Cover_init) = true)
    (a_System_bounded_maximum : PySem.W.findIn K (.ref C_System) "bounded_maximum" = some (some (.ref f_System_bounded_maximum)))
    (i_System_bounded_maximum : PySem.W.isFn K (.ref f_System_bounded_maximum) = true)
    (l_System_bounded_maximum : K.lookup f_System_bounded_maximum = some ⟨oc_System_bounded_maximum, od_System_bounded_maximum, .func (PySem.W.fnOf "bounded_maximum" "System.bounded_maximum" (defArgs s_System_bounded_maximum) (defBody s_System_bounded_maximum) (defScope s_System_bounded_maximum) .none kV_System_bounded_maximum dc_System_bounded_maximum pm_System_bounded_maximum an_System_bounded_maximum cd_System_bounded_maximum ct_System_bounded_maximum), sl_System_bounded_maximum⟩)
    (c_System_bounded_maximum : PySem.W.codeIn K cd_System_bounded_maximum "System.bounded_maximum" = true)
    (k_System_bounded_maximum : PySem.W.keepIn K (.ref f_System_bounded_maximum) = true)
    (a_System_endless : PySem.W.findIn K (.ref C_System) "endless" = some (some (.ref f_System_endless)))
    (i_System_endless : PySem.W.isFn K (.ref f_System_endless) = true)
    (l_System_endless : K.lookup f_System_endless = some ⟨oc_System_endless, od_System_endless, .func (PySem.W.fnOf "endless" "System.endless" (defArgs s_System_endless) (defBody s_System_endless) (defScope s_System_endless) .none kV_System_endless dc_System_endless pm_System_endless an_System_endless cd_System_endless ct_System_endless), sl_System_endless⟩)
    (c_System_endless : PySem.W.codeIn K cd_System_endless "System.endless" = true)
    (k_System_endless : PySem.W.keepIn K (.ref f_System_endless) = true)
    (a_bound : PySem.W.nsIn K mainGlobals "bound" = some (some (.ref f_bound)))
    (l_bound : K.lookup f_bound = some ⟨oc_bound, od_bound, .func (PySem.W.fnOf "bound" "bound" (defArgs s_bound) (defBody s_bound) (defScope s_bound) .none kV_bound dc_bound pm_bound an_bound cd_bound ct_bound), sl_bound⟩)
    (c_bound : PySem.W.codeIn K cd_bound "bound" = true)
    (k_bound : PySem.W.keepIn K (.ref f_bound) = true)
    (a_Cover_steps : PySem.W.findIn K (.ref C_Cover) "steps" = some (some (.ref f_Cover_steps)))
    (i_Cover_steps : PySem.W.isFn K (.ref f_Cover_steps) = true)
    (l_Cover_steps : K.lookup f_Cover_steps = some ⟨oc_Cover_steps, od_Cover_steps, .func (PySem.W.fnOf "steps" "Cover.steps" (defArgs s_Cover_steps) (defBody s_Cover_steps) (defScope s_Cover_steps) .none kV_Cover_steps dc_Cover_steps pm_Cover_steps an_Cover_steps cd_Cover_steps ct_Cover_steps), sl_Cover_steps⟩)
    (c_Cover_steps : PySem.W.codeIn K cd_Cover_steps "Cover.steps" = true)
    (k_Cover_steps : PySem.W.keepIn K (.ref f_Cover_steps) = true)
    (a_System_simple_value : PySem.W.findIn K (.ref C_System) "simple_value" = some (some (.ref f_System_simple_value)))
    (i_System_simple_value : PySem.W.isFn K (.ref f_System_simple_value) = true)
    (l_System_simple_value : K.lookup f_System_simple_value = some ⟨oc_System_simple_value, od_System_simple_value, .func (PySem.W.fnOf "simple_value" "System.simple_value" (defArgs s_System_simple_value) (defBody s_System_simple_value) (defScope s_System_simple_value) .none kV_System_simple_value dc_System_simple_value pm_System_simple_value an_System_simple_value cd_System_simple_value ct_System_simple_value), sl_System_simple_value⟩)
    (c_System_simple_value : PySem.W.codeIn K cd_System_simple_value "System.simple_value" = true)
    (k_System_simple_value : PySem.W.keepIn K (.ref f_System_simple_value) = true)
    (a_System_multiplier : PySem.W.findIn K (.ref C_System) "multiplier" = some (some (.ref f_System_multiplier)))
    (i_System_multiplier : PySem.W.isFn K (.ref f_System_multiplier) = true)
    (l_System_multiplier : K.lookup f_System_multiplier = some ⟨oc_System_multiplier, od_System_multiplier, .func (PySem.W.fnOf "multiplier" "System.multiplier" (defArgs s_System_multiplier) (defBody s_System_multiplier) (defScope s_System_multiplier) .none kV_System_multiplier dc_System_multiplier pm_System_multiplier an_System_multiplier cd_System_multiplier ct_System_multiplier), sl_System_multiplier⟩)
    (c_System_multiplier : PySem.W.codeIn K cd_System_multiplier "System.multiplier" = true)
    (k_System_multiplier : PySem.W.keepIn K (.ref f_System_multiplier) = true)
    (a_Cover_is_count : PySem.W.findIn K (.ref C_Cover) "is_count" = some (some (.ref f_Cover_is_count)))
    (i_Cover_is_count : PySem.W.isFn K (.ref f_Cover_is_count) = true)
    (l_Cover_is_count : K.lookup f_Cover_is_count = some ⟨oc_Cover_is_count, od_Cover_is_count, .func (PySem.W.fnOf "is_count" "Cover.is_count" (defArgs s_Cover_is_count) (defBody s_Cover_is_count) (defScope s_Cover_is_count) .none kV_Cover_is_count dc_Cover_is_count pm_Cover_is_count an_Cover_is_count cd_Cover_is_count ct_Cover_is_count), sl_Cover_is_count⟩)
    (c_Cover_is_count : PySem.W.codeIn K cd_Cover_is_count "Cover.is_count" = true)
    (k_Cover_is_count : PySem.W.keepIn K (.ref f_Cover_is_count) = true)
    (a_Cover_reach : PySem.W.findIn K (.ref C_Cover) "reach" = some (some (.ref f_Cover_reach)))
    (i_Cover_reach : PySem.W.isFn K (.ref f_Cover_reach) = true)
    (l_Cover_reach : K.lookup f_Cover_reach = some ⟨oc_Cover_reach, od_Cover_reach, .func (PySem.W.fnOf "reach" "Cover.reach" (defArgs s_Cover_reach) (defBody s_Cover_reach) (defScope s_Cover_reach) .none kV_Cover_reach dc_Cover_reach pm_Cover_reach an_Cover_reach cd_Cover_reach ct_Cover_reach), sl_Cover_reach⟩)
    (c_Cover_reach : PySem.W.codeIn K cd_Cover_reach "Cover.reach" = true)
    (k_Cover_reach : PySem.W.keepIn K (.ref f_Cover_reach) = true)
    (a_Cover_simple_reach : PySem.W.findIn K (.ref C_Cover) "simple_reach" = some (some (.ref f_Cover_simple_reach)))
    (i_Cover_simple_reach : PySem.W.isFn K (.ref f_Cover_simple_reach) = true)
    (l_Cover_simple_reach : K.lookup f_Cover_simple_reach = some ⟨oc_Cover_simple_reach, od_Cover_simple_reach, .func (PySem.W.fnOf "simple_reach" "Cover.simple_reach" (defArgs s_Cover_simple_reach) (defBody s_Cover_simple_reach) (defScope s_Cover_simple_reach) .none kV_Cover_simple_reach dc_Cover_simple_reach pm_Cover_simple_reach an_Cover_simple_reach cd_Cover_simple_reach ct_Cover_simple_reach), sl_Cover_simple_reach⟩)
    (c_Cover_simple_reach : PySem.W.codeIn K cd_Cover_simple_reach "Cover.simple_reach" = true)
    (k_Cover_simple_reach : PySem.W.keepIn K (.ref f_Cover_simple_reach) = true)
    (a_Cover_step_reach : PySem.W.findIn K (.ref C_Cover) "step_reach" = some (some (.ref f_Cover_step_reach)))
    (i_Cover_step_reach : PySem.W.isFn K (.ref f_Cover_step_reach) = true)
    (l_Cover_step_reach : K.lookup f_Cover_step_reach = some ⟨oc_Cover_step_reach, od_Cover_step_reach, .func (PySem.W.fnOf "step_reach" "Cover.step_reach" (defArgs s_Cover_step_reach) (defBody s_Cover_step_reach) (defScope s_Cover_step_reach) .none kV_Cover_step_reach dc_Cover_step_reach pm_Cover_step_reach an_Cover_step_reach cd_Cover_step_reach ct_Cover_step_reach), sl_Cover_step_reach⟩)
    (c_Cover_step_reach : PySem.W.codeIn K cd_Cover_step_reach "Cover.step_reach" = true)
    (k_Cover_step_reach : PySem.W.keepIn K (.ref f_Cover_step_reach) = true)
    (a_Cover_best : PySem.W.findIn K (.ref C_Cover) "best" = some (some (.ref f_Cover_best)))
    (i_Cover_best : PySem.W.isFn K (.ref f_Cover_best) = true)
    (l_Cover_best : K.lookup f_Cover_best = some ⟨oc_Cover_best, od_Cover_best, .func (PySem.W.fnOf "best" "Cover.best" (defArgs s_Cover_best) (defBody s_Cover_best) (defScope s_Cover_best) .none kV_Cover_best dc_Cover_best pm_Cover_best an_Cover_best cd_Cover_best ct_Cover_best), sl_Cover_best⟩)
    (c_Cover_best : PySem.W.codeIn K cd_Cover_best "Cover.best" = true)
    (k_Cover_best : PySem.W.keepIn K (.ref f_Cover_best) = true)
    (a_Cover_take : PySem.W.findIn K (.ref C_Cover) "take" = some (some (.ref f_Cover_take)))
    (i_Cover_take : PySem.W.isFn K (.ref f_Cover_take) = true)
    (l_Cover_take : K.lookup f_Cover_take = some ⟨oc_Cover_take, od_Cover_take, .func (PySem.W.fnOf "take" "Cover.take" (defArgs s_Cover_take) (defBody s_Cover_take) (defScope s_Cover_take) .none kV_Cover_take dc_Cover_take pm_Cover_take an_Cover_take cd_Cover_take ct_Cover_take), sl_Cover_take⟩)
    (c_Cover_take : PySem.W.codeIn K cd_Cover_take "Cover.take" = true)
    (k_Cover_take : PySem.W.keepIn K (.ref f_Cover_take) = true)
    (a_covering : PySem.W.nsIn K mainGlobals "covering" = some (some (.ref f_covering)))
    (l_covering : K.lookup f_covering = some ⟨oc_covering, od_covering, .func (PySem.W.fnOf "covering" "covering" (defArgs s_covering) (defBody s_covering) (defScope s_covering) .none kV_covering dc_covering pm_covering an_covering cd_covering ct_covering), sl_covering⟩)
    (c_covering : PySem.W.codeIn K cd_covering "covering" = true)
    (k_covering : PySem.W.keepIn K (.ref f_covering) = true)
    (a_certificate : PySem.W.nsIn K mainGlobals "certificate" = some (some (.ref f_certificate)))
    (l_certificate : K.lookup f_certificate = some ⟨oc_certificate, od_certificate, .func (PySem.W.fnOf "certificate" "certificate" (defArgs s_certificate) (defBody s_certificate) (defScope s_certificate) .none kV_certificate dc_certificate pm_certificate an_certificate cd_certificate ct_certificate), sl_certificate⟩)
    (c_certificate : PySem.W.codeIn K cd_certificate "certificate" = true)
    (k_certificate : PySem.W.keepIn K (.ref f_certificate) = true)
    (a_l_word : PySem.W.nsIn K mainGlobals "_law_word" = some (some (.ref f_l_word)))
    (l_l_word : K.lookup f_l_word = some ⟨oc_l_word, od_l_word, .func (PySem.W.fnOf "_law_word" "_law_word" (defArgs s_l_word) (defBody s_l_word) (defScope s_l_word) .none kV_l_word dc_l_word pm_l_word an_l_word cd_l_word ct_l_word), sl_l_word⟩)
    (c_l_word : PySem.W.codeIn K cd_l_word "_law_word" = true)
    (k_l_word : PySem.W.keepIn K (.ref f_l_word) = true)
    (a_l_drawn : PySem.W.nsIn K mainGlobals "_law_drawn" = some (some (.ref f_l_drawn)))
    (l_l_drawn : K.lookup f_l_drawn = some ⟨oc_l_drawn, od_l_drawn, .func (PySem.W.fnOf "_law_drawn" "_law_drawn" (defArgs s_l_drawn) (defBody s_l_drawn) (defScope s_l_drawn) .none kV_l_drawn dc_l_drawn pm_l_drawn an_l_drawn cd_l_drawn ct_l_drawn), sl_l_drawn⟩)
    (c_l_drawn : PySem.W.codeIn K cd_l_drawn "_law_drawn" = true)
    (k_l_drawn : PySem.W.keepIn K (.ref f_l_drawn) = true)
    (a_l_regular : PySem.W.nsIn K mainGlobals "_law_regular" = some (some (.ref f_l_regular)))
    (l_l_regular : K.lookup f_l_regular = some ⟨oc_l_regular, od_l_regular, .func (PySem.W.fnOf "_law_regular" "_law_regular" (defArgs s_l_regular) (defBody s_l_regular) (defScope s_l_regular) .none kV_l_regular dc_l_regular pm_l_regular an_l_regular cd_l_regular ct_l_regular), sl_l_regular⟩)
    (c_l_regular : PySem.W.codeIn K cd_l_regular "_law_regular" = true)
    (k_l_regular : PySem.W.keepIn K (.ref f_l_regular) = true)
    (a_l_nearly : PySem.W.nsIn K mainGlobals "_law_nearly" = some (some (.ref f_l_nearly)))
    (l_l_nearly : K.lookup f_l_nearly = some ⟨oc_l_nearly, od_l_nearly, .func (PySem.W.fnOf "_law_nearly" "_law_nearly" (defArgs s_l_nearly) (defBody s_l_nearly) (defScope s_l_nearly) .none kV_l_nearly dc_l_nearly pm_l_nearly an_l_nearly cd_l_nearly ct_l_nearly), sl_l_nearly⟩)
    (c_l_nearly : PySem.W.codeIn K cd_l_nearly "_law_nearly" = true)
    (k_l_nearly : PySem.W.keepIn K (.ref f_l_nearly) = true)
    (a_l_english : PySem.W.nsIn K mainGlobals "_law_english" = some (some (.ref f_l_english)))
    (l_l_english : K.lookup f_l_english = some ⟨oc_l_english, od_l_english, .func (PySem.W.fnOf "_law_english" "_law_english" (defArgs s_l_english) (defBody s_l_english) (defScope s_l_english) .none kV_l_english dc_l_english pm_l_english an_l_english cd_l_english ct_l_english), sl_l_english⟩)
    (c_l_english : PySem.W.codeIn K cd_l_english "_law_english" = true)
    (k_l_english : PySem.W.keepIn K (.ref f_l_english) = true)
    (a_l_rows : PySem.W.nsIn K mainGlobals "_law_rows" = some (some (.ref f_l_rows)))
    (l_l_rows : K.lookup f_l_rows = some ⟨oc_l_rows, od_l_rows, .func (PySem.W.fnOf "_law_rows" "_law_rows" (defArgs s_l_rows) (defBody s_l_rows) (defScope s_l_rows) .none kV_l_rows dc_l_rows pm_l_rows an_l_rows cd_l_rows ct_l_rows), sl_l_rows⟩)
    (c_l_rows : PySem.W.codeIn K cd_l_rows "_law_rows" = true)
    (k_l_rows : PySem.W.keepIn K (.ref f_l_rows) = true)
    (a_l_small : PySem.W.nsIn K mainGlobals "_law_small" = some (some (.ref f_l_small)))
    (l_l_small : K.lookup f_l_small = some ⟨oc_l_small, od_l_small, .func (PySem.W.fnOf "_law_small" "_law_small" (defArgs s_l_small) (defBody s_l_small) (defScope s_l_small) .none kV_l_small dc_l_small pm_l_small an_l_small cd_l_small ct_l_small), sl_l_small⟩)
    (c_l_small : PySem.W.codeIn K cd_l_small "_law_small" = true)
    (k_l_small : PySem.W.keepIn K (.ref f_l_small) = true)
    (a_l_is_integer : PySem.W.nsIn K mainGlobals "_law_is_integer" = some (some (.ref f_l_is_integer)))
    (l_l_is_integer : K.lookup f_l_is_integer = some ⟨oc_l_is_integer, od_l_is_integer, .func (PySem.W.fnOf "_law_is_integer" "_law_is_integer" (defArgs s_l_is_integer) (defBody s_l_is_integer) (defScope s_l_is_integer) .none kV_l_is_integer dc_l_is_integer pm_l_is_integer an_l_is_integer cd_l_is_integer ct_l_is_integer), sl_l_is_integer⟩)
    (c_l_is_integer : PySem.W.codeIn K cd_l_is_integer "_law_is_integer" = true)
    (k_l_is_integer : PySem.W.keepIn K (.ref f_l_is_integer) = true)
    (a_l_same : PySem.W.nsIn K mainGlobals "_law_same" = some (some (.ref f_l_same)))
    (l_l_same : K.lookup f_l_same = some ⟨oc_l_same, od_l_same, .func (PySem.W.fnOf "_law_same" "_law_same" (defArgs s_l_same) (defBody s_l_same) (defScope s_l_same) .none kV_l_same dc_l_same pm_l_same an_l_same cd_l_same ct_l_same), sl_l_same⟩)
    (c_l_same : PySem.W.codeIn K cd_l_same "_law_same" = true)
    (k_l_same : PySem.W.keepIn K (.ref f_l_same) = true)
    (a_is_certificate : PySem.W.nsIn K mainGlobals "is_certificate" = some (some (.ref f_is_certificate)))
    (l_is_certificate : K.lookup f_is_certificate = some ⟨oc_is_certificate, od_is_certificate, .func (PySem.W.fnOf "is_certificate" "is_certificate" (defArgs s_is_certificate) (defBody s_is_certificate) (defScope s_is_certificate) .none kV_is_certificate dc_is_certificate pm_is_certificate an_is_certificate cd_is_certificate ct_is_certificate), sl_is_certificate⟩)
    (c_is_certificate : PySem.W.codeIn K cd_is_certificate "is_certificate" = true)
    (k_is_certificate : PySem.W.keepIn K (.ref f_is_certificate) = true)
    (a_l_count : PySem.W.nsIn K mainGlobals "_law_count" = some (some (.ref f_l_count)))
    (l_l_count : K.lookup f_l_count = some ⟨oc_l_count, od_l_count, .func (PySem.W.fnOf "_law_count" "_law_count" (defArgs s_l_count) (defBody s_l_count) (defScope s_l_count) .none kV_l_count dc_l_count pm_l_count an_l_count cd_l_count ct_l_count), sl_l_count⟩)
    (c_l_count : PySem.W.codeIn K cd_l_count "_law_count" = true)
    (k_l_count : PySem.W.keepIn K (.ref f_l_count) = true)
    (a_law : PySem.W.nsIn K mainGlobals "law" = some (some (.ref f_law)))
    (l_law : K.lookup f_law = some ⟨oc_law, od_law, .func (PySem.W.fnOf "law" "law" (defArgs s_law) (defBody s_law) (defScope s_law) .none kV_law dc_law pm_law an_law cd_law ct_law), sl_law⟩)
    (c_law : PySem.W.codeIn K cd_law "law" = true)
    (k_law : PySem.W.keepIn K (.ref f_law) = true) :
    ∃ fd : FuncData, (∀ (s : Shared) (v : Value), BindsTo s fd ⟨[v], []⟩ [("_law_script", v)]) ∧ ∀ base : Heap, K.In base → base.Ns mainGlobals mg → FnOk P w K mg base CX0 LV fa fd ["_law_script"] (spLaw K) := by
  have T : Txt K mg :=
  { C_System := C_System,
     C_Cover := C_Cover,
     b_len := PySem.W.mg_none_of X G z_len,
     b_int := PySem.W.mg_none_of X G z_int,
     b_list := PySem.W.mg_none_of X G z_list,
     b_range := PySem.W.mg_none_of X G z_range,
     b_all := PySem.W.mg_none_of X G z_all,
     b_enumerate := PySem.W.mg_none_of X G z_enumerate,
     b_tuple := PySem.W.mg_none_of X G z_tuple,
     b_max := PySem.W.mg_none_of X G z_max,
     b_min := PySem.W.mg_none_of X G z_min,
     b_sum := PySem.W.mg_none_of X G z_sum,
     b_any := PySem.W.mg_none_of X G z_any,
     b_isinstance := PySem.W.mg_none_of X G z_isinstance,
     b_bool := PySem.W.mg_none_of X G z_bool,
     b_str := PySem.W.mg_none_of X G z_str,
     g_MOST_LETTERS := ⟨_, PySem.W.mg_of X G a_MOST_LETTERS, ⟨_, rfl⟩⟩,
     g_LETTERS := ⟨_, PySem.W.mg_of X G a_LETTERS, ⟨_, rfl⟩⟩,
     g_MOST_VALUE := ⟨_, PySem.W.mg_of X G a_MOST_VALUE, ⟨_, rfl⟩⟩,
     g_MOST_SIMPLE := ⟨_, PySem.W.mg_of X G a_MOST_SIMPLE, ⟨_, rfl⟩⟩,
     g_MOST_MULTIPLIERS := ⟨_, PySem.W.mg_of X G a_MOST_MULTIPLIERS, ⟨_, rfl⟩⟩,
     cl_System := ⟨pg_System, hd_System, po_System, sa_System⟩,
     n_System_simple := n_System_simple,
     n_System_multipliers := n_System_multipliers,
     n_System__values := n_System__values,
     n_System__rows := n_System__rows,
     cl_Cover := ⟨pg_Cover, hd_Cover, po_Cover, sa_Cover⟩,
     n_Cover_system := n_Cover_system,
     n_Cover_covered := n_Cover_covered,
     d_l_pool := ⟨_, _, fun_mk (st := s_l_pool) l_l_pool c_l_pool k_l_pool, PySem.W.mg_of X G a_l_pool, (fun_mk (st := s_l_pool) l_l_pool c_l_pool k_l_pool).binds (ps := ["_law_script"]) fun _ _ _ _ _ _ us hl => match us, hl with | [_], _ => rfl⟩,
     d_l_take := ⟨_, _, fun_mk (st := s_l_take) l_l_take c_l_take k_l_take, PySem.W.mg_of X G a_l_take, (fun_mk (st := s_l_take) l_l_take c_l_take k_l_take).binds (ps := ["_law_pool_here", "_law_many"]) fun _ _ _ _ _ _ us hl => match us, hl with | [_, _], _ => rfl⟩,
     d_l_turned := ⟨_, _, fun_mk (st := s_l_turned) l_l_turned c_l_turned k_l_turned, PySem.W.mg_of X G a_l_turned, (fun_mk (st := s_l_turned) l_l_turned c_l_turned k_l_turned).binds (ps := ["_law_pool_here", "_law_rows_here"]) fun _ _ _ _ _ _ us hl => match us, hl with | [_, _], _ => rfl⟩,
     d_is_word := ⟨_, _, fun_mk (st := s_is_word) l_is_word c_is_word k_is_word, PySem.W.mg_of X G a_is_word, (fun_mk (st := s_is_word) l_is_word c_is_word k_is_word).binds (ps := ["text"]) fun _ _ _ _ _ _ us hl => match us, hl with | [_], _ => rfl⟩,
     d_simple_fault := ⟨_, _, fun_mk (st := s_simple_fault) l_simple_fault c_simple_fault k_simple_fault, PySem.W.mg_of X G a_simple_fault, (fun_mk (st := s_simple_fault) l_simple_fault c_simple_fault k_simple_fault).binds (ps := ["row"]) fun _ _ _ _ _ _ us hl => match us, hl with | [_], _ => rfl⟩,
     d_multiplier_fault := ⟨_, _, fun_mk (st := s_multiplier_fault) l_multiplier_fault c_multiplier_fault k_multiplier_fault, PySem.W.mg_of X G a_multiplier_fault, (fun_mk (st := s_multiplier_fault) l_multiplier_fault c_multiplier_fault k_multiplier_fault).binds (ps := ["row"]) fun _ _ _ _ _ _ us hl => match us, hl with | [_], _ => rfl⟩,
     d_check_rows := ⟨_, _, fun_mk (st := s_check_rows) l_check_rows c_check_rows k_check_rows, PySem.W.mg_of X G a_check_rows, (fun_mk (st := s_check_rows) l_check_rows c_check_rows k_check_rows).binds (ps := ["part", "rows", "most"]) fun _ _ _ _ _ _ us hl => match us, hl with | [_, _, _], _ => rfl⟩,
     d_check_words := ⟨_, _, fun_mk (st := s_check_words) l_check_words c_check_words k_check_words, PySem.W.mg_of X G a_check_words, (fun_mk (st := s_check_words) l_check_words c_check_words k_check_words).binds (ps := ["simple", "multipliers"]) fun _ _ _ _ _ _ us hl => match us, hl with | [_, _], _ => rfl⟩,
     d_check_endless := ⟨_, _, fun_mk (st := s_check_endless) l_check_endless c_check_endless k_check_endless, PySem.W.mg_of X G a_check_endless, (fun_mk (st := s_check_endless) l_check_endless c_check_endless k_check_endless).binds (ps := ["multipliers"]) fun _ _ _ _ _ _ us hl => match us, hl with | [_], _ => rfl⟩,
     d_System_init := ⟨_, _, fun_mk (st := s_System_init) l_System_init c_System_init k_System_init, PySem.W.mg_of X G aC_System, ⟨mk_System, a_System_init, i_System_init, kc_System⟩, (fun_mk (st := s_System_init) l_System_init c_System_init k_System_init).binds (ps := ["self", "simple", "multipliers"]) fun _ _ _ _ _ _ us hl => match us, hl with | [_, _, _], _ => rfl⟩,
     d_l_shaped := ⟨_, _, fun_mk (st := s_l_shaped) l_l_shaped c_l_shaped k_l_shaped, PySem.W.mg_of X G a_l_shaped, (fun_mk (st := s_l_shaped) l_l_shaped c_l_shaped k_l_shaped).binds (ps := ["_law_pool_here", "_law_rows_here"]) fun _ _ _ _ _ _ us hl => match us, hl with | [_, _], _ => rfl⟩,
     d_l_made := ⟨_, _, fun_mk (st := s_l_made) l_l_made c_l_made k_l_made, PySem.W.mg_of X G a_l_made, (fun_mk (st := s_l_made) l_l_made c_l_made k_l_made).binds (ps := ["_law_pool_here", "_law_rows_here"]) fun _ _ _ _ _ _ us hl => match us, hl with | [_, _], _ => rfl⟩,
     d_l_endless := ⟨_, _, fun_mk (st := s_l_endless) l_l_endless c_l_endless k_l_endless, PySem.W.mg_of X G a_l_endless, (fun_mk (st := s_l_endless) l_l_endless c_l_endless k_l_endless).binds (ps := ["_law_rows_here"]) fun _ _ _ _ _ _ us hl => match us, hl with | [_], _ => rfl⟩,
     d_l_bounded := ⟨_, _, fun_mk (st := s_l_bounded) l_l_bounded c_l_bounded k_l_bounded, PySem.W.mg_of X G a_l_bounded, (fun_mk (st := s_l_bounded) l_l_bounded c_l_bounded k_l_bounded).binds (ps := ["_law_rows_here"]) fun _ _ _ _ _ _ us hl => match us, hl with | [_], _ => rfl⟩,
     d_l_edge := ⟨_, _, fun_mk (st := s_l_edge) l_l_edge c_l_edge k_l_edge, PySem.W.mg_of X G a_l_edge, (fun_mk (st := s_l_edge) l_l_edge c_l_edge k_l_edge).binds (ps := ["_law_rows_here"]) fun _ _ _ _ _ _ us hl => match us, hl with | [_], _ => rfl⟩,
     d_l_looked := ⟨_, _, fun_mk (st := s_l_looked) l_l_looked c_l_looked k_l_looked, PySem.W.mg_of X G a_l_looked, (fun_mk (st := s_l_looked) l_l_looked c_l_looked k_l_looked).binds (ps := ["_law_rows_here", "_law_covered"]) fun _ _ _ _ _ _ us hl => match us, hl with | [_, _], _ => rfl⟩,
     d_l_reach := ⟨_, _, fun_mk (st := s_l_reach) l_l_reach c_l_reach k_l_reach, PySem.W.mg_of X G a_l_reach, (fun_mk (st := s_l_reach) l_l_reach c_l_reach k_l_reach).binds (ps := ["_law_rows_here", "_law_covered", "_law_word_here", "_law_times"]) fun _ _ _ _ _ _ us hl => match us, hl with | [_, _, _, _], _ => rfl⟩,
     d_l_due := ⟨_, _, fun_mk (st := s_l_due) l_l_due c_l_due k_l_due, PySem.W.mg_of X G a_l_due, (fun_mk (st := s_l_due) l_l_due c_l_due k_l_due).binds (ps := ["_law_rows_here"]) fun _ _ _ _ _ _ us hl => match us, hl with | [_], _ => rfl⟩,
     d_Cover_init := ⟨_, _, fun_mk (st := s_Cover_init) l_Cover_init c_Cover_init k_Cover_init, PySem.W.mg_of X G aC_Cover, ⟨mk_Cover, a_Cover_init, i_Cover_init, kc_Cover⟩, (fun_mk (st := s_Cover_init) l_Cover_init c_Cover_init k_Cover_init).binds (ps := ["self", "system"]) fun _ _ _ _ _ _ us hl => match us, hl with | [_, _], _ => rfl⟩,
     d_System_bounded_maximum := ⟨_, _, fun_mk (st := s_System_bounded_maximum) l_System_bounded_maximum c_System_bounded_maximum k_System_bounded_maximum, ⟨a_System_bounded_maximum, i_System_bounded_maximum, k_System_bounded_maximum⟩, (fun_mk (st := s_System_bounded_maximum) l_System_bounded_maximum c_System_bounded_maximum k_System_bounded_maximum).binds (ps := ["self"]) fun _ _ _ _ _ _ us hl => match us, hl with | [_], _ => rfl⟩,
     d_System_endless := ⟨_, _, fun_mk (st := s_System_endless) l_System_endless c_System_endless k_System_endless, ⟨a_System_endless, i_System_endless, k_System_endless⟩, (fun_mk (st := s_System_endless) l_System_endless c_System_endless k_System_endless).binds (ps := ["self"]) fun _ _ _ _ _ _ us hl => match us, hl with | [_], _ => rfl⟩,
     d_bound := ⟨_, _, fun_mk (st := s_bound) l_bound c_bound k_bound, PySem.W.mg_of X G a_bound, (fun_mk (st := s_bound) l_bound c_bound k_bound).binds (ps := ["system"]) fun _ _ _ _ _ _ us hl => match us, hl with | [_], _ => rfl⟩,
     d_Cover_steps := ⟨_, _, fun_mk (st := s_Cover_steps) l_Cover_steps c_Cover_steps k_Cover_steps, ⟨a_Cover_steps, i_Cover_steps, k_Cover_steps⟩, (fun_mk (st := s_Cover_steps) l_Cover_steps c_Cover_steps k_Cover_steps).binds (ps := ["self"]) fun _ _ _ _ _ _ us hl => match us, hl with | [_], _ => rfl⟩,
     d_System_simple_value := ⟨_, _, fun_mk (st := s_System_simple_value) l_System_simple_value c_System_simple_value k_System_simple_value, ⟨a_System_simple_value, i_System_simple_value, k_System_simple_value⟩, (fun_mk (st := s_System_simple_value) l_System_simple_value c_System_simple_value k_System_simple_value).binds (ps := ["self", "word"]) fun _ _ _ _ _ _ us hl => match us, hl with | [_, _], _ => rfl⟩,
     d_System_multiplier := ⟨_, _, fun_mk (st := s_System_multiplier) l_System_multiplier c_System_multiplier k_System_multiplier, ⟨a_System_multiplier, i_System_multiplier, k_System_multiplier⟩, (fun_mk (st := s_System_multiplier) l_System_multiplier c_System_multiplier k_System_multiplier).binds (ps := ["self", "word"]) fun _ _ _ _ _ _ us hl => match us, hl with | [_, _], _ => rfl⟩,
     d_Cover_is_count := ⟨_, _, fun_mk (st := s_Cover_is_count) l_Cover_is_count c_Cover_is_count k_Cover_is_count, ⟨a_Cover_is_count, i_Cover_is_count, k_Cover_is_count⟩, (fun_mk (st := s_Cover_is_count) l_Cover_is_count c_Cover_is_count k_Cover_is_count).binds (ps := ["self", "row", "times"]) fun _ _ _ _ _ _ us hl => match us, hl with | [_, _, _], _ => rfl⟩,
     d_Cover_reach := ⟨_, _, fun_mk (st := s_Cover_reach) l_Cover_reach c_Cover_reach k_Cover_reach, ⟨a_Cover_reach, i_Cover_reach, k_Cover_reach⟩, (fun_mk (st := s_Cover_reach) l_Cover_reach c_Cover_reach k_Cover_reach).binds (ps := ["self", "row", "times"]) fun _ _ _ _ _ _ us hl => match us, hl with | [_, _, _], _ => rfl⟩,
     d_Cover_simple_reach := ⟨_, _, fun_mk (st := s_Cover_simple_reach) l_Cover_simple_reach c_Cover_simple_reach k_Cover_simple_reach, ⟨a_Cover_simple_reach, i_Cover_simple_reach, k_Cover_simple_reach⟩, (fun_mk (st := s_Cover_simple_reach) l_Cover_simple_reach c_Cover_simple_reach k_Cover_simple_reach).binds (ps := ["self", "value"]) fun _ _ _ _ _ _ us hl => match us, hl with | [_, _], _ => rfl⟩,
     d_Cover_step_reach := ⟨_, _, fun_mk (st := s_Cover_step_reach) l_Cover_step_reach c_Cover_step_reach k_Cover_step_reach, ⟨a_Cover_step_reach, i_Cover_step_reach, k_Cover_step_reach⟩, (fun_mk (st := s_Cover_step_reach) l_Cover_step_reach c_Cover_step_reach k_Cover_step_reach).binds (ps := ["self", "word", "times"]) fun _ _ _ _ _ _ us hl => match us, hl with | [_, _, _], _ => rfl⟩,
     d_Cover_best := ⟨_, _, fun_mk (st := s_Cover_best) l_Cover_best c_Cover_best k_Cover_best, ⟨a_Cover_best, i_Cover_best, k_Cover_best⟩, (fun_mk (st := s_Cover_best) l_Cover_best c_Cover_best k_Cover_best).binds (ps := ["self"]) fun _ _ _ _ _ _ us hl => match us, hl with | [_], _ => rfl⟩,
     d_Cover_take := ⟨_, _, fun_mk (st := s_Cover_take) l_Cover_take c_Cover_take k_Cover_take, ⟨a_Cover_take, i_Cover_take, k_Cover_take⟩, (fun_mk (st := s_Cover_take) l_Cover_take c_Cover_take k_Cover_take).binds (ps := ["self", "step"]) fun _ _ _ _ _ _ us hl => match us, hl with | [_, _], _ => rfl⟩,
     d_covering := ⟨_, _, fun_mk (st := s_covering) l_covering c_covering k_covering, PySem.W.mg_of X G a_covering, (fun_mk (st := s_covering) l_covering c_covering k_covering).binds (ps := ["system"]) fun _ _ _ _ _ _ us hl => match us, hl with | [_], _ => rfl⟩,
     d_certificate := ⟨_, _, fun_mk (st := s_certificate) l_certificate c_certificate k_certificate, PySem.W.mg_of X G a_certificate, (fun_mk (st := s_certificate) l_certificate c_certificate k_certificate).binds (ps := ["system"]) fun _ _ _ _ _ _ us hl => match us, hl with | [_], _ => rfl⟩,
     d_l_word := ⟨_, _, fun_mk (st := s_l_word) l_l_word c_l_word k_l_word, PySem.W.mg_of X G a_l_word, (fun_mk (st := s_l_word) l_l_word c_l_word k_l_word).binds (ps := ["_law_pool_here", "_law_number"]) fun _ _ _ _ _ _ us hl => match us, hl with | [_, _], _ => rfl⟩,
     d_l_drawn := ⟨_, _, fun_mk (st := s_l_drawn) l_l_drawn c_l_drawn k_l_drawn, PySem.W.mg_of X G a_l_drawn, (fun_mk (st := s_l_drawn) l_l_drawn c_l_drawn k_l_drawn).binds (ps := ["_law_pool_here"]) fun _ _ _ _ _ _ us hl => match us, hl with | [_], _ => rfl⟩,
     d_l_regular := ⟨_, _, fun_mk (st := s_l_regular) l_l_regular c_l_regular k_l_regular, PySem.W.mg_of X G a_l_regular, (fun_mk (st := s_l_regular) l_l_regular c_l_regular k_l_regular).binds (ps := ["_law_pool_here"]) fun _ _ _ _ _ _ us hl => match us, hl with | [_], _ => rfl⟩,
     d_l_nearly := ⟨_, _, fun_mk (st := s_l_nearly) l_l_nearly c_l_nearly k_l_nearly, PySem.W.mg_of X G a_l_nearly, (fun_mk (st := s_l_nearly) l_l_nearly c_l_nearly k_l_nearly).binds (ps := ["_law_pool_here"]) fun _ _ _ _ _ _ us hl => match us, hl with | [_], _ => rfl⟩,
     d_l_english := ⟨_, _, fun_mk (st := s_l_english) l_l_english c_l_english k_l_english, PySem.W.mg_of X G a_l_english, (fun_mk (st := s_l_english) l_l_english c_l_english k_l_english).binds (ps := ["_law_pool_here"]) fun _ _ _ _ _ _ us hl => match us, hl with | [_], _ => rfl⟩,
     d_l_rows := ⟨_, _, fun_mk (st := s_l_rows) l_l_rows c_l_rows k_l_rows, PySem.W.mg_of X G a_l_rows, (fun_mk (st := s_l_rows) l_l_rows c_l_rows k_l_rows).binds (ps := ["_law_pool_here"]) fun _ _ _ _ _ _ us hl => match us, hl with | [_], _ => rfl⟩,
     d_l_small := ⟨_, _, fun_mk (st := s_l_small) l_l_small c_l_small k_l_small, PySem.W.mg_of X G a_l_small, (fun_mk (st := s_l_small) l_l_small c_l_small k_l_small).binds (ps := ["_law_pool_here"]) fun _ _ _ _ _ _ us hl => match us, hl with | [_], _ => rfl⟩,
     d_l_is_integer := ⟨_, _, fun_mk (st := s_l_is_integer) l_l_is_integer c_l_is_integer k_l_is_integer, PySem.W.mg_of X G a_l_is_integer, (fun_mk (st := s_l_is_integer) l_l_is_integer c_l_is_integer k_l_is_integer).binds (ps := ["_law_actual"]) fun _ _ _ _ _ _ us hl => match us, hl with | [_], _ => rfl⟩,
     d_l_same := ⟨_, _, fun_mk (st := s_l_same) l_l_same c_l_same k_l_same, PySem.W.mg_of X G a_l_same, (fun_mk (st := s_l_same) l_l_same c_l_same k_l_same).binds (ps := ["_law_actual", "_law_due_here"]) fun _ _ _ _ _ _ us hl => match us, hl with | [_, _], _ => rfl⟩,
     d_is_certificate := ⟨_, _, fun_mk (st := s_is_certificate) l_is_certificate c_is_certificate k_is_certificate, PySem.W.mg_of X G a_is_certificate, (fun_mk (st := s_is_certificate) l_is_certificate c_is_certificate k_is_certificate).binds (ps := ["system", "steps"]) fun _ _ _ _ _ _ us hl => match us, hl with | [_, _], _ => rfl⟩,
     d_l_count := ⟨_, _, fun_mk (st := s_l_count) l_l_count c_l_count k_l_count, PySem.W.mg_of X G a_l_count, (fun_mk (st := s_l_count) l_l_count c_l_count k_l_count).binds (ps := ["_law_rows_here", "_law_number", "_law_known"]) fun _ _ _ _ _ _ us hl => match us, hl with | [_, _, _], _ => rfl⟩,
     d_law := ⟨_, _, fun_mk (st := s_law) l_law c_law k_law, PySem.W.mg_of X G a_law, (fun_mk (st := s_law) l_law c_law k_law).binds (ps := ["_law_script"]) fun _ _ _ _ _ _ us hl => match us, hl with | [_], _ => rfl⟩ }
  obtain ⟨f, fd, F, hm, b⟩ := T.d_law
  have e := hfa.symm.trans hm
  cases e
  refine ⟨fd, fun s v => ?_, fun base _ _ => ?_⟩
  · obtain ⟨oc, od, kV, doc, pm, an, cdv, ct, osl, rfl, lk, hcd⟩ := F.ex
    exact .of_eq rfl
  · exact ok_law T F
theorem walk {l : PySem.W.OpenLaw} {qp : Program} {loose : List Str} {XP : (Str → Option Value) → Heap → Prop} {YP : World → Heap → Prop} {d : DefRec} {K : Params → PySem.W.Frag} (hn : l.most = some 63) (hdf : d.params.defaults = [])
    (hY : ∀ (w : World) (h : Heap), YP w h → (K w.params).In h)
    (F : ∀ (w : World) (mg : Str → Option Value) (fa : Addr) (h : Heap), (K w.params).In h → h.Ns mainGlobals mg → mg d.name = some (.ref fa) →
      ∃ fd : FuncData, (∀ (s : Shared) (u : Value), BindsTo s fd ⟨[u], []⟩ [("_law_script", u)]) ∧ ∀ base : Heap, (K w.params).In base → base.Ns mainGlobals mg → FnOk l.prog w (K w.params) mg base CX0 LV fa fd ["_law_script"] (spLaw (K w.params))) :
    PySem.W.WalkO qp loose XP YP l.row.toRowW d [] (fun f vs => PySem.call f vs) :=
  L2.walk_of (n := 63) (k := LV) (x := "_law_script") (CX := fun _ => CX0) (sp := fun w => spLaw (K w.params)) hn (by decide) hdf ⟨rfl, by decide, by decide⟩ hY F (fun _ _ a ns hl _ hS => ⟨a, ns, rfl, hS, hl, fun _ => rfl⟩) fun _ _ _ _ _ z => z
end My
open PySem PySem.W PyProof.Rows
set_option maxRecDepth 100000 in
set_option maxHeartbeats 0 in
theorem PySem.Challenge.cw_sayonce_k23_certificates_holds : PySem.Challenge.rw_sayonce_k23_certificates.Holds := by
  w_on; o_law; k_head; (case hw => w_witness2)
  k_fill
  refine My.walk (l := PySem.Challenge.rw_sayonce_k23_certificates) rfl rfl (fun w h Y => PySem.W.kIn_of Y) ?F
  case F =>
    intro w mg fa h KX G hmg
    refine' My.end_mk KX G hmg ?z_len ?z_int ?z_list ?z_range ?z_all ?z_enumerate ?z_tuple ?z_max ?z_min ?z_sum ?z_any ?z_isinstance ?z_bool ?z_str ?a_MOST_LETTERS ?a_LETTERS ?a_MOST_VALUE ?a_MOST_SIMPLE ?a_MOST_MULTIPLIERS ?aC_System ?pg_System ?hd_System ?po_System ?sa_System ?mk_System ?kc_System ?n_System_simple ?n_System_multipliers ?n_System__values ?n_System__rows ?aC_Cover ?pg_Cover ?hd_Cover ?po_Cover ?sa_Cover ?mk_Cover ?kc_Cover ?n_Cover_system ?n_Cover_covered ?a_l_pool ?l_l_pool ?c_l_pool ?k_l_pool ?a_l_take ?l_l_take ?c_l_take ?k_l_take ?a_l_turned ?l_l_turned ?c_l_turned ?k_l_turned ?a_is_word ?l_is_word ?c_is_word ?k_is_word ?a_simple_fault ?l_simple_fault ?c_simple_fault ?k_simple_fault ?a_multiplier_fault ?l_multiplier_fault ?c_multiplier_fault ?k_multiplier_fault ?a_check_rows ?l_check_rows ?c_check_rows ?k_check_rows ?a_check_words ?l_check_words ?c_check_words ?k_check_words ?a_check_endless ?l_check_endless ?c_check_endless ?k_check_endless ?a_System_init ?i_System_init ?l_System_init ?c_System_init ?k_System_init ?a_l_shaped ?l_l_shaped ?c_l_shaped ?k_l_shaped ?a_l_made ?l_l_made ?c_l_made ?k_l_made ?a_l_endless ?l_l_endless ?c_l_endless ?k_l_endless ?a_l_bounded ?l_l_bounded ?c_l_bounded ?k_l_bounded ?a_l_edge ?l_l_edge ?c_l_edge ?k_l_edge ?a_l_looked ?l_l_looked ?c_l_looked ?k_l_looked ?a_l_reach ?l_l_reach ?c_l_reach ?k_l_reach ?a_l_due ?l_l_due ?c_l_due ?k_l_due ?a_Cover_init ?i_Cover_init ?l_Cover_init ?c_Cover_init ?k_Cover_init ?a_System_bounded_maximum ?i_System_bounded_maximum ?l_System_bounded_maximum ?c_System_bounded_maximum ?k_System_bounded_maximum ?a_System_endless ?i_System_endless ?l_System_endless ?c_System_endless ?k_System_endless ?a_bound ?l_bound ?c_bound ?k_bound ?a_Cover_steps ?i_Cover_steps ?l_Cover_steps ?c_Cover_steps ?k_Cover_steps ?a_System_simple_value ?i_System_simple_value ?l_System_simple_value ?c_System_simple_value ?k_System_simple_value ?a_System_multiplier ?i_System_multiplier ?l_System_multiplier ?c_System_multiplier ?k_System_multiplier ?a_Cover_is_count ?i_Cover_is_count ?l_Cover_is_count ?c_Cover_is_count ?k_Cover_is_count ?a_Cover_reach ?i_Cover_reach ?l_Cover_reach ?c_Cover_reach ?k_Cover_reach ?a_Cover_simple_reach ?i_Cover_simple_reach ?l_Cover_simple_reach ?c_Cover_simple_reach ?k_Cover_simple_reach ?a_Cover_step_reach ?i_Cover_step_reach ?l_Cover_step_reach ?c_Cover_step_reach ?k_Cover_step_reach ?a_Cover_best ?i_Cover_best ?l_Cover_best ?c_Cover_best ?k_Cover_best ?a_Cover_take ?i_Cover_take ?l_Cover_take ?c_Cover_take ?k_Cover_take ?a_covering ?l_covering ?c_covering ?k_covering ?a_certificate ?l_certificate ?c_certificate ?k_certificate ?a_l_word ?l_l_word ?c_l_word ?k_l_word ?a_l_drawn ?l_l_drawn ?c_l_drawn ?k_l_drawn ?a_l_regular ?l_l_regular ?c_l_regular ?k_l_regular ?a_l_nearly ?l_l_nearly ?c_l_nearly ?k_l_nearly ?a_l_english ?l_l_english ?c_l_english ?k_l_english ?a_l_rows ?l_l_rows ?c_l_rows ?k_l_rows ?a_l_small ?l_l_small ?c_l_small ?k_l_small ?a_l_is_integer ?l_l_is_integer ?c_l_is_integer ?k_l_is_integer ?a_l_same ?l_l_same ?c_l_same ?k_l_same ?a_is_certificate ?l_is_certificate ?c_is_certificate ?k_is_certificate ?a_l_count ?l_l_count ?c_l_count ?k_l_count ?a_law ?l_law ?c_law ?k_law
    (case z_len => k_is)
    (case z_int => k_is)
    (case z_list => k_is)
    (case z_range => k_is)
    (case z_all => k_is)
    (case z_enumerate => k_is)
    (case z_tuple => k_is)
    (case z_max => k_is)
    (case z_min => k_is)
    (case z_sum => k_is)
    (case z_any => k_is)
    (case z_isinstance => k_is)
    (case z_bool => k_is)
    (case z_str => k_is)
    (case a_MOST_LETTERS => k_is)
    (case a_LETTERS => k_is)
    (case a_MOST_VALUE => k_is)
    (case a_MOST_SIMPLE => k_is)
    (case a_MOST_MULTIPLIERS => k_is)
    (case aC_System => k_is)
    (case pg_System => k_is)
    (case hd_System => k_is)
    (case po_System => k_is)
    (case sa_System => k_is)
    (case mk_System => k_is)
    (case kc_System => k_is)
    (case n_System_simple => k_is)
    (case n_System_multipliers => k_is)
    (case n_System__values => k_is)
    (case n_System__rows => k_is)
    (case aC_Cover => k_is)
    (case pg_Cover => k_is)
    (case hd_Cover => k_is)
    (case po_Cover => k_is)
    (case sa_Cover => k_is)
    (case mk_Cover => k_is)
    (case kc_Cover => k_is)
    (case n_Cover_system => k_is)
    (case n_Cover_covered => k_is)
    (case a_l_pool => k_is)
    (case l_l_pool => k_is)
    (case c_l_pool => k_is)
    (case k_l_pool => k_is)
    (case a_l_take => k_is)
    (case l_l_take => k_is)
    (case c_l_take => k_is)
    (case k_l_take => k_is)
    (case a_l_turned => k_is)
    (case l_l_turned => k_is)
    (case c_l_turned => k_is)
    (case k_l_turned => k_is)
    (case a_is_word => k_is)
    (case l_is_word => k_is)
    (case c_is_word => k_is)
    (case k_is_word => k_is)
    (case a_simple_fault => k_is)
    (case l_simple_fault => k_is)
    (case c_simple_fault => k_is)
    (case k_simple_fault => k_is)
    (case a_multiplier_fault => k_is)
    (case l_multiplier_fault => k_is)
    (case c_multiplier_fault => k_is)
    (case k_multiplier_fault => k_is)
    (case a_check_rows => k_is)
    (case l_check_rows => k_is)
    (case c_check_rows => k_is)
    (case k_check_rows => k_is)
    (case a_check_words => k_is)
    (case l_check_words => k_is)
    (case c_check_words => k_is)
    (case k_check_words => k_is)
    (case a_check_endless => k_is)
    (case l_check_endless => k_is)
    (case c_check_endless => k_is)
    (case k_check_endless => k_is)
    (case a_System_init => k_is)
    (case i_System_init => k_is)
    (case l_System_init => k_is)
    (case c_System_init => k_is)
    (case k_System_init => k_is)
    (case a_l_shaped => k_is)
    (case l_l_shaped => k_is)
    (case c_l_shaped => k_is)
    (case k_l_shaped => k_is)
    (case a_l_made => k_is)
    (case l_l_made => k_is)
    (case c_l_made => k_is)
    (case k_l_made => k_is)
    (case a_l_endless => k_is)
    (case l_l_endless => k_is)
    (case c_l_endless => k_is)
    (case k_l_endless => k_is)
    (case a_l_bounded => k_is)
    (case l_l_bounded => k_is)
    (case c_l_bounded => k_is)
    (case k_l_bounded => k_is)
    (case a_l_edge => k_is)
    (case l_l_edge => k_is)
    (case c_l_edge => k_is)
    (case k_l_edge => k_is)
    (case a_l_looked => k_is)
    (case l_l_looked => k_is)
    (case c_l_looked => k_is)
    (case k_l_looked => k_is)
    (case a_l_reach => k_is)
    (case l_l_reach => k_is)
    (case c_l_reach => k_is)
    (case k_l_reach => k_is)
    (case a_l_due => k_is)
    (case l_l_due => k_is)
    (case c_l_due => k_is)
    (case k_l_due => k_is)
    (case a_Cover_init => k_is)
    (case i_Cover_init => k_is)
    (case l_Cover_init => k_is)
    (case c_Cover_init => k_is)
    (case k_Cover_init => k_is)
    (case a_System_bounded_maximum => k_is)
    (case i_System_bounded_maximum => k_is)
    (case l_System_bounded_maximum => k_is)
    (case c_System_bounded_maximum => k_is)
    (case k_System_bounded_maximum => k_is)
    (case a_System_endless => k_is)
    (case i_System_endless => k_is)
    (case l_System_endless => k_is)
    (case c_System_endless => k_is)
    (case k_System_endless => k_is)
    (case a_bound => k_is)
    (case l_bound => k_is)
    (case c_bound => k_is)
    (case k_bound => k_is)
    (case a_Cover_steps => k_is)
    (case i_Cover_steps => k_is)
    (case l_Cover_steps => k_is)
    (case c_Cover_steps => k_is)
    (case k_Cover_steps => k_is)
    (case a_System_simple_value => k_is)
    (case i_System_simple_value => k_is)
    (case l_System_simple_value => k_is)
    (case c_System_simple_value => k_is)
    (case k_System_simple_value => k_is)
    (case a_System_multiplier => k_is)
    (case i_System_multiplier => k_is)
    (case l_System_multiplier => k_is)
    (case c_System_multiplier => k_is)
    (case k_System_multiplier => k_is)
    (case a_Cover_is_count => k_is)
    (case i_Cover_is_count => k_is)
    (case l_Cover_is_count => k_is)
    (case c_Cover_is_count => k_is)
    (case k_Cover_is_count => k_is)
    (case a_Cover_reach => k_is)
    (case i_Cover_reach => k_is)
    (case l_Cover_reach => k_is)
    (case c_Cover_reach => k_is)
    (case k_Cover_reach => k_is)
    (case a_Cover_simple_reach => k_is)
    (case i_Cover_simple_reach => k_is)
    (case l_Cover_simple_reach => k_is)
    (case c_Cover_simple_reach => k_is)
    (case k_Cover_simple_reach => k_is)
    (case a_Cover_step_reach => k_is)
    (case i_Cover_step_reach => k_is)
    (case l_Cover_step_reach => k_is)
    (case c_Cover_step_reach => k_is)
    (case k_Cover_step_reach => k_is)
    (case a_Cover_best => k_is)
    (case i_Cover_best => k_is)
    (case l_Cover_best => k_is)
    (case c_Cover_best => k_is)
    (case k_Cover_best => k_is)
    (case a_Cover_take => k_is)
    (case i_Cover_take => k_is)
    (case l_Cover_take => k_is)
    (case c_Cover_take => k_is)
    (case k_Cover_take => k_is)
    (case a_covering => k_is)
    (case l_covering => k_is)
    (case c_covering => k_is)
    (case k_covering => k_is)
    (case a_certificate => k_is)
    (case l_certificate => k_is)
    (case c_certificate => k_is)
    (case k_certificate => k_is)
    (case a_l_word => k_is)
    (case l_l_word => k_is)
    (case c_l_word => k_is)
    (case k_l_word => k_is)
    (case a_l_drawn => k_is)
    (case l_l_drawn => k_is)
    (case c_l_drawn => k_is)
    (case k_l_drawn => k_is)
    (case a_l_regular => k_is)
    (case l_l_regular => k_is)
    (case c_l_regular => k_is)
    (case k_l_regular => k_is)
    (case a_l_nearly => k_is)
    (case l_l_nearly => k_is)
    (case c_l_nearly => k_is)
    (case k_l_nearly => k_is)
    (case a_l_english => k_is)
    (case l_l_english => k_is)
    (case c_l_english => k_is)
    (case k_l_english => k_is)
    (case a_l_rows => k_is)
    (case l_l_rows => k_is)
    (case c_l_rows => k_is)
    (case k_l_rows => k_is)
    (case a_l_small => k_is)
    (case l_l_small => k_is)
    (case c_l_small => k_is)
    (case k_l_small => k_is)
    (case a_l_is_integer => k_is)
    (case l_l_is_integer => k_is)
    (case c_l_is_integer => k_is)
    (case k_l_is_integer => k_is)
    (case a_l_same => k_is)
    (case l_l_same => k_is)
    (case c_l_same => k_is)
    (case k_l_same => k_is)
    (case a_is_certificate => k_is)
    (case l_is_certificate => k_is)
    (case c_is_certificate => k_is)
    (case k_is_certificate => k_is)
    (case a_l_count => k_is)
    (case l_l_count => k_is)
    (case c_l_count => k_is)
    (case k_l_count => k_is)
    (case a_law => k_is)
    (case l_law => k_is)
    (case c_law => k_is)
    (case k_law => k_is)
