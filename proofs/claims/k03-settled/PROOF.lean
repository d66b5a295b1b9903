import PyProof.Rows.All
import Wide.All
import OpenK.AllK
import Wide.FinOn
import PyProof.StrOps2
import KE.KDictKeyed
import KE.KDictWalk
import KE.KDictCopyH
import HandS.Base
import HandS.Call
import HandS.List
import HandS.Comp
import HandS.Ends
import HandS.Dict
import HandS.Iter
import HandS.Text
import HandS.Exc
import HandS.ExcOwn
import HandS.TryOnly
import HandS.Words
import HandS.WordsList
import HandS.WordsExc
import HandS.Evl
import HandS.IsInst
import HandS.TupAny
import HandS.SetFor
import HandS.Defaults
import HandS.Walk
import HandS.ExcIs
import HandS.More
import HandS.Head0
import HandS.Head1
import HandS.Head2
import HandS.HeadEnd
import HandS.HeadHook1
import HandS.HeadHook2
import KE.KDictOf
import HandS.TupLen
import HandS.Conv
import HandS.DictEq
import PySem.Challenge.RW_lietable_k03_settled
set_option Elab.async false
set_option linter.all false
set_option maxRecDepth 100000
set_option maxHeartbeats 4000000
/-! LTa: the names of the readings that the printed texts use; rules of one's own for values. -/
namespace LT
open PySem PySem.Spec PyProof.Rows L2

structure G3 where
  P : Program
  w : World
  K : PySem.W.Frag

/-! ### readings by name -/
abbrev oAdd : R2 := rI0 fun i j => .int (i + j)
abbrev oSub : R2 := rI0 fun i j => .int (i - j)
abbrev oMul : R2 := rI CMul fun i j => .int (i * j)
abbrev oDiv : R2 := rI CDiv fun i j => .int (i / j)
abbrev oMod : R2 := rI (fun _ j => 0 < j) fun i j => .int (i % j)
abbrev oPow : R2 := rI CPow fun i j => .int (i ^ j.toNat)
abbrev oNeg : V → Hp → VK → Prop := rU fun i => .int (-i)
abbrev oLt : R2 := rI0 fun i j => .bl (decide (i < j))
abbrev oLe : R2 := rI0 fun i j => .bl (decide (i ≤ j))
abbrev oGt : R2 := rI0 fun i j => .bl (decide (j < i))
abbrev oGe : R2 := rI0 fun i j => .bl (decide (j ≤ i))
abbrev oIsN : R2 := fun x y H Q => y = .non ∧ Q (.bl (decide (x = .non))) H
abbrev oNotN : R2 := fun x y H Q => y = .non ∧ Q (.bl (!decide (x = .non))) H
abbrev oInS : R2 := fun x y H Q => ∃ (c : Nat) (z : Str), x = .str ⟨#[c]⟩ ∧ y = .str z ∧ Q (.bl (decide (c ∈ z.cps.toList))) H
abbrev oNinS : R2 := fun x y H Q => ∃ (c : Nat) (z : Str), x = .str ⟨#[c]⟩ ∧ y = .str z ∧ Q (.bl (!decide (c ∈ z.cps.toList))) H
abbrev oCatS : R2 := fun x y H Q => ∃ i j, x = .str i ∧ y = .str j ∧ i.length + j.length ≤ sizeLine ∧ Q (.str (i ++ j)) H
abbrev oLen (K : PySem.W.Frag) : List V → Hp → VK → Prop := fun xs H Q => ∃ p ys, xs = [.ref p] ∧ (SqL K H p ys ∨ SqT K H p ys) ∧ Q (.int ys.length) H
abbrev oLenS : List V → Hp → VK → Prop := fun xs H Q => ∃ z, xs = [.str z] ∧ z.length ≤ sizeLine ∧ Q (.int z.length) H
abbrev oList (K : PySem.W.Frag) : List V → Hp → VK → Prop := fun xs H Q => ∃ p ys, xs = [.ref p] ∧ (SqL K H p ys ∨ SqT K H p ys) ∧ ∀ l, H l = none → Q (.ref l) (upd H l (.lst ys))
abbrev oTuple (K : PySem.W.Frag) : List V → Hp → VK → Prop := fun xs H Q => ∃ p ys, xs = [.ref p] ∧ ((SqL K H p ys ∧ ∀ l, H l = none → Q (.ref l) (upd H l (.tup ys))) ∨ (SqT K H p ys ∧ Q (.ref p) H))
abbrev oMin2 : List V → Hp → VK → Prop := fun xs H Q => ∃ i j, xs = [.int i, .int j] ∧ Q (.int (if j < i then j else i)) H
abbrev oMax2 : List V → Hp → VK → Prop := fun xs H Q => ∃ i j, xs = [.int i, .int j] ∧ Q (.int (if j > i then j else i)) H
abbrev oSlSeq (K : PySem.W.Frag) : V → Option Int → Option Int → Hp → VK → Prop := fun x lo hi H Q => rSlL K x lo hi H Q ∨ rSlA K x lo hi H Q
/-- raise C(..), C at the address C -/
abbrev tRaise (C : Addr) (E : XK) : TS := fun _ _ H => E (.ref C) none H

section
variable {X : Cx}
/-! ### a text, some times over -/
def repS (x : Str) (n : Nat) : Str := ⟨(List.replicate n x.cps).foldl (· ++ ·) #[]⟩
theorem foldl_cat (l : List (Array Nat)) : ∀ a : Array Nat, (l.foldl (· ++ ·) a).toList = a.toList ++ (l.map Array.toList).flatten := by
  induction l with
  | nil => intro a; simp
  | cons b l ih => intro a; rw [List.foldl_cons, ih]; simp
theorem repS_list (x : Str) (n : Nat) : (repS x n).cps.toList = (List.replicate n x.cps.toList).flatten := by
  unfold repS
  rw [foldl_cat]
  simp
theorem Str.len_eq (x : Str) : x.length = x.cps.toList.length := by simp [Str.length]
theorem repS_len (x : Str) (n : Nat) : (repS x n).length = n * x.length := by
  rw [Str.len_eq, repS_list, Str.len_eq]
  simp
/-- s * n, short -/
abbrev oMulS : R2 := fun x y H Q => ∃ z n, x = .str z ∧ y = .int n ∧ z.length ≤ 1000 ∧ -1000 ≤ n ∧ n ≤ 1000 ∧ Q (.str (repS z n.toNat)) H
theorem op_mul_str : OpR X (binaryOp .Mult) oMulS := by
  intro pins s σ H x y v u Q I rx ry h
  obtain ⟨z, n, rfl, rfl, hz, h1, h2, q⟩ := h
  obtain ⟨t, rfl⟩ := rx
  obtain ⟨t', rfl⟩ := ry
  refine PySem.P.mul_str ?_ ?_ ?_ ?_
  · rw [decide_eq_false (by omega), decide_eq_false (by omega)]; rfl
  · intro hn _
    have e : (2 ^ 63 - 1 : Int) / n ≥ (2 ^ 63 - 1) / 1000 := by
      have hp : 0 < n := by omega
      refine Int.le_ediv_of_mul_le hp ?_
      have : ((2 ^ 63 - 1 : Int) / 1000) * n ≤ ((2 ^ 63 - 1 : Int) / 1000) * 1000 := Int.mul_le_mul_of_nonneg_left h2 (by decide)
      omega
    have e2 : ((2 ^ 63 - 1 : Int) / 1000) > 1000 := by decide
    omega
  · intro hn _
    have hm : z.length * n.toNat ≤ 1000 * 1000 := Nat.mul_le_mul hz (by omega)
    unfold Builtin.Str.tooLong
    exact decide_eq_false (by
      have := sizeLine_eq
      omega)
  · by_cases c : n < 1
    · rw [if_pos c]
      refine ⟨by decide, ?_⟩
      have e : n.toNat = 0 := by omega
      rw [e] at q
      exact ⟨.str (repS z 0), H, I.tok _, ⟨s.toks, rfl⟩, q⟩
    · rw [if_neg c]
      by_cases c2 : (n == 1 || z.length == 0) = true
      · rw [if_pos c2]
        refine ⟨.str (repS z n.toNat), H, I, ⟨t, ?_⟩, q⟩
        have e : repS z n.toNat = z := by
          have e2 : (repS z n.toNat).cps = z.cps := by
            apply Array.toList_inj.mp
            rw [repS_list]
            rcases Bool.or_eq_true_iff.mp c2 with h | h
            · have : n.toNat = 1 := by have := eq_of_beq h; omega
              rw [this]; simp
            · have hz : z.cps.toList = [] := by
                have := eq_of_beq h
                rw [Str.len_eq] at this
                exact List.length_eq_zero_iff.mp this
              rw [hz]; simp
          cases z; cases h : repS _ _; rw [h] at e2; simp at e2; rw [e2]
        rw [e]
      · rw [if_neg c2]
        refine ⟨?_, ⟨.str (repS z n.toNat), H, I.tok _, ⟨s.toks, rfl⟩, q⟩⟩
        show (repS z n.toNat).length ≤ sizeLine
        rw [repS_len]
        have hm : n.toNat * z.length ≤ 1000 * 1000 := Nat.mul_le_mul (by omega) hz
        have := sizeLine_eq
        omega

/-! ### xs.count(v), flat values -/
theorem countP_eqU {x : V} : ∀ {xs : List V} {us : List Value}, Vals xs us → xs.all flatV = true → us.countP (eqU x) = xs.countP fun y => eqV y x
  | _, _, .nil, _ => rfl
  | y :: xs, u :: us, .cons r t, f => by
    rw [List.all_cons, Bool.and_eq_true] at f
    rw [List.countP_cons, List.countP_cons, eqU_of r f.1, countP_eqU t f.2]
abbrev oCount (K : PySem.W.Frag) : V → List V → Hp → VK → Prop := fun x xs H Q => ∃ p ys k, x = .ref p ∧ xs = [k] ∧ SqL K H p ys ∧ flatV k = true ∧ ys.all flatV = true ∧ Q (.int ((ys.countP fun y => eqV y k : Nat) : Int)) H
theorem mt_countV : MtR X "list.count" (oCount X.K) := by
  intro pins s σ H x xs v us Q I rx rxs h
  obtain ⟨p, ys, k, rfl, rfl, hs, fk, fy, q⟩ := h
  cases rx
  obtain ⟨u, rfl, ru⟩ := rxs.one
  obtain ⟨its, rv, ⟨⟨cls, dd, data, sl⟩, n, ho, hc, hdn, hd⟩, hlen⟩ := I.list hs
  simp only at hc hd
  subst hc hd
  refine call_meets PySem.F.slot_list_count ⟨_, ho, rfl⟩ PySem.F.entry_list_count (PySem.F.args_list_count_2 _ _)
    (SeqAt.list_countAt p its.toArray n dd sl u (eqU k)) ⟨ho, fun y hy => mem_eqAt ru fk rv fy y (by simpa using hy), ?_⟩
  have e : its.toArray.toList.countP (eqU k) = ys.countP fun y => eqV y k := countP_eqU rv fy
  exact ⟨.int _, H, I.tok _, ⟨s.toks, by rw [e]⟩, q⟩
end
end LT

set_option Elab.async false
set_option linter.all false
set_option maxRecDepth 100000
set_option maxHeartbeats 4000000
/-! LTb: what stands for what in a heap; loops by an invariant; steps. -/
namespace LT
open PySem PySem.Spec PyProof.Rows L2

/-! ### data and values -/
def vn (n : Nat) : V := .int (n : Int)
def Mono {α : Type} (R : α → V → Hp → Prop) : Prop := ∀ d v H H', Same H H' → R d v H → R d v H'
def rV : V → V → Hp → Prop := fun d v _ => v = d
def rI : Int → V → Hp → Prop := fun n v _ => v = .int n
theorem mono_rI : Mono rI := fun _ _ _ _ _ h => h
theorem all2_rI {H : Hp} : ∀ xs : List Int, Paired (fun d v => rI d v H) xs (xs.map V.int)
  | [] => .nil
  | x :: xs => .cons rfl (all2_rI xs)
def rN : Nat → V → Hp → Prop := fun n v _ => v = vn n
def rPath : List Nat → V → Hp → Prop := fun p v H => ∃ a, v = .ref a ∧ H a = some (.tup (p.map vn))
abbrev All2 {α : Type} (R : α → V → Hp → Prop) (ds : List α) (vs : List V) (H : Hp) : Prop := Paired (fun d v => R d v H) ds vs
/-- a list (read) of such data -/
def rLst (K : PySem.W.Frag) {α : Type} (R : α → V → Hp → Prop) : List α → V → Hp → Prop := fun ds v H => ∃ a vs, v = .ref a ∧ SqL K H a vs ∧ All2 R ds vs H
/-- a new list of such data -/
def nLst {α : Type} (R : α → V → Hp → Prop) (H0 : Hp) : List α → V → Hp → Prop := fun ds v H => ∃ a vs, v = .ref a ∧ H0 a = none ∧ H a = some (.lst vs) ∧ All2 R ds vs H
theorem mono_rV : Mono rV := fun _ _ _ _ _ h => h
theorem mono_rN : Mono rN := fun _ _ _ _ _ h => h
theorem mono_rPath : Mono rPath := fun _ _ _ _ s ⟨a, e, h⟩ => ⟨a, e, s _ _ h⟩
theorem All2.mono {α : Type} {R : α → V → Hp → Prop} (m : Mono R) {ds : List α} {vs : List V} {H H' : Hp} (s : Same H H') (h : All2 R ds vs H) : All2 R ds vs H' := Paired.mapP h fun d v r => m d v H H' s r
theorem mono_rLst {K : PySem.W.Frag} {α : Type} {R : α → V → Hp → Prop} (m : Mono R) : Mono (rLst K R) := fun _ _ _ _ s ⟨a, vs, e, h, r⟩ => ⟨a, vs, e, s.seq h, All2.mono m s r⟩
theorem nLst.rd {K : PySem.W.Frag} {α : Type} {R : α → V → Hp → Prop} {H0 H : Hp} {ds : List α} {v : V} (h : nLst R H0 ds v H) : rLst K R ds v H := let ⟨a, vs, e, _, q, r⟩ := h; ⟨a, vs, e, SqL.of q, r⟩
theorem All2.len {α : Type} {R : α → V → Hp → Prop} {ds : List α} {vs : List V} {H : Hp} (h : All2 R ds vs H) : ds.length = vs.length := Paired.length h
theorem All2.get {α : Type} {R : α → V → Hp → Prop} : ∀ {ds : List α} {vs : List V} {H : Hp}, All2 R ds vs H → ∀ {i : Nat} {v : V}, vs[i]? = some v → ∃ d, ds[i]? = some d ∧ R d v H
  | _, _, _, .nil, i, v, e => by simp at e
  | _, _, _, .cons r t, 0, v, e => by simp at e; subst e; exact ⟨_, rfl, r⟩
  | _, _, _, .cons r t, i + 1, v, e => by
    obtain ⟨d, h1, h2⟩ := All2.get (R := R) t (i := i) (v := v) (by simpa using e)
    exact ⟨d, by simpa using h1, h2⟩
theorem All2.get' {α : Type} {R : α → V → Hp → Prop} : ∀ {ds : List α} {vs : List V} {H : Hp}, All2 R ds vs H → ∀ {i : Nat} {d : α}, ds[i]? = some d → ∃ v, vs[i]? = some v ∧ R d v H
  | _, _, _, .nil, i, v, e => by simp at e
  | _, _, _, .cons r t, 0, v, e => by simp at e; subst e; exact ⟨_, rfl, r⟩
  | _, _, _, .cons r t, i + 1, v, e => by
    obtain ⟨d, h1, h2⟩ := All2.get' (R := R) t (i := i) (d := v) (by simpa using e)
    exact ⟨d, by simpa using h1, h2⟩
theorem All2.snoc {α : Type} {R : α → V → Hp → Prop} : ∀ {ds : List α} {vs : List V} {H : Hp} {d : α} {v : V}, All2 R ds vs H → R d v H → All2 R (ds ++ [d]) (vs ++ [v]) H
  | _, _, _, _, _, .nil, h => .cons h .nil
  | _, _, _, _, _, .cons r t, h => .cons r (All2.snoc t h)
theorem All2.append {α : Type} {R : α → V → Hp → Prop} : ∀ {ds es : List α} {vs us : List V} {H : Hp}, All2 R ds vs H → All2 R es us H → All2 R (ds ++ es) (vs ++ us) H
  | _, _, _, _, _, .nil, h => h
  | _, _, _, _, _, .cons r t, h => .cons r (All2.append t h)
theorem all2_rV {H : Hp} : ∀ xs : List V, All2 rV xs xs H
  | [] => .nil
  | x :: xs => .cons rfl (all2_rV xs)
theorem of_rV {H : Hp} : ∀ {xs ys : List V}, All2 rV xs ys H → ys = xs
  | _, _, .nil => rfl
  | x :: xs, y :: ys, .cons e t => by
    have e' : y = x := e
    rw [e', of_rV t]
theorem of_rN {H : Hp} : ∀ {xs : List Nat} {ys : List V}, All2 rN xs ys H → ys = xs.map vn
  | _, _, .nil => rfl
  | x :: xs, y :: ys, .cons e t => by
    have e' : y = vn x := e
    rw [e', of_rN t]; rfl
theorem all2_rN {H : Hp} : ∀ xs : List Nat, All2 rN xs (xs.map vn) H
  | [] => .nil
  | x :: xs => .cons rfl (all2_rN xs)

/-! ### walks over data -/
/-- J goes through values that stand for ds, over any heap that has what H0 has -/
structure DW {α : Type} (J : It) (ds : List α) (R : α → V → Hp → Prop) (H0 : Hp) : Prop where
  w : Walk J ds.length (fun H => Same H0 H) (fun i H x H' => Same H H' ∧ ∃ d, ds[i]? = some d ∧ R d x H')
def ForJ (J : It) (g : TG) (tb : TS) (D : Ends) (σ : L2.St) (H1 : Hp) : Prop := ∃ W : Nat → Nat → L2.St → Hp → Prop, (∃ m, W 0 m σ H1) ∧ ∀ i m σ H, W i m σ H →
  (J.stop i H ∧ D.nx σ H) ∨ (J.go i H ∧ ∃ N : L2.St → Hp → Prop, (∀ σ' H', N σ' H' → ∃ m', m' < m ∧ W (i + 1) m' σ' H') ∧ ∀ x H', J.yld i H x H' → g x σ H' fun σ2 H2 => tb { D with nx := N, ct := N, bk := D.nx } σ2 H2)
def LcJ (J : It) (g : TG) (tt : TT) (te : TE) (vs : List Nat) (σ : L2.St) (H1 : Hp) (Q : Addr → Hp → Prop) : Prop := ∀ D, H1 D = none → ∃ W : Nat → Nat → Hp → Prop, (∃ m, W 0 m (upd H1 D (.lst []))) ∧ ∀ i m H, W i m H →
  (J.stop i H ∧ Q D H) ∨ (J.go i H ∧ ∃ Nx : Hp → Prop, (∀ H', Nx H' → ∃ m', m' < m ∧ W (i + 1) m' H') ∧ ∀ x H', J.yld i H x H' → g x (wipe σ vs) H' fun σ2 H2 => wipe σ2 vs = wipe σ vs ∧ tt σ2 H2 fun b H3 =>
    if b = true then te σ2 H3 fun y H4 => ∃ acc, H4 D = some (.lst acc) ∧ acc.length < sizeLine ∧ Nx (upd H4 D (.lst (acc ++ [y]))) else Nx H3)
theorem cut_map {ns : List Int} {lo hi : Option Int} : ∃ ms : List Int, L2.cutV (ns.map V.int) lo hi = ms.map V.int ∧ ms.length ≤ ns.length := by
  refine ⟨(ns.drop (HT.sIx (ns.map V.int).length 0 lo)).take (HT.sIx (ns.map V.int).length (ns.map V.int).length hi - HT.sIx (ns.map V.int).length 0 lo), ?_, ?_⟩
  · unfold L2.cutV
    rw [List.map_take, List.map_drop]
  · rw [List.length_take, List.length_drop]; omega
theorem same_new {H : Hp} {p : Addr} {o : HO} (h : H p = none) : Same H (upd H p o) := fun b u e => by
  rw [upd_ne (ne_of_none e h)]; exact e
/-- an object that H0 does not know changes -/
theorem same_upd {H0 H : Hp} {p : Addr} {o : HO} (s : Same H0 H) (h : H0 p = none) : Same H0 (upd H p o) := fun b u e => by
  rw [upd_ne (ne_of_none e h)]; exact s b u e
theorem take_snoc {α : Type} {ds : List α} {i : Nat} {d : α} (h : ds[i]? = some d) : ds.take (i + 1) = ds.take i ++ [d] := by
  rw [List.take_succ, h]; rfl
theorem take_split {α : Type} {ds : List α} {i : Nat} {d : α} (h : ds[i]? = some d) : ds = ds.take i ++ d :: ds.drop (i + 1) := by
  have hi : i < ds.length := (List.getElem?_eq_some_iff.mp h).1
  have : ds[i] = d := (List.getElem?_eq_some_iff.mp h).2
  rw [← this, List.getElem_cons_drop, List.take_append_drop]
section
variable {α : Type} {R : α → V → Hp → Prop} {J : It} {ds : List α} {H0 : Hp}
/-- a for; the word speaks of the data gone through -/
theorem DW.loop (dw : DW J ds R H0) {g : TG} {tb : TS} {D : Ends} {σ : L2.St} {H : Hp} (Pv : List α → L2.St → Hp → Prop) (h0 : Pv [] σ H) (stay : ∀ pre σ' H', Pv pre σ' H' → Same H0 H')
    (turn : ∀ pre d post v σ' H' H2, ds = pre ++ d :: post → Pv pre σ' H' → Same H' H2 → R d v H2 → g v σ' H2 fun σ2 H3 => tb { D with nx := Pv (pre ++ [d]), ct := Pv (pre ++ [d]), bk := D.nx } σ2 H3)
    (done : ∀ σ' H', Pv ds σ' H' → D.nx σ' H') : ForJ J g tb D σ H := by
  refine for_it dw.w (fun i σ' H' => Pv (ds.take i) σ' H') h0 (fun i σ' H' _ p => stay _ _ _ p) (fun i v σ' H' H2 hi p y => ?_) (fun σ' H' p => ?_)
  · obtain ⟨sm, d, hd, rd⟩ := y
    have t := turn _ d _ v σ' H' H2 (take_split hd) p sm rd
    rw [take_snoc hd]
    exact t
  · rw [List.take_length] at p
    exact done σ' H' p
/-- the heap without what stands at D -/
def off (D : Addr) (H : Hp) : Hp := fun b => if b = D then none else H b
theorem off_ne {D b : Addr} {H : Hp} (h : b ≠ D) : off D H b = H b := by unfold off; rw [if_neg h]
theorem off_same {D : Addr} {H : Hp} : Same (off D H) H := fun b o h => by
  by_cases e : b = D
  · rw [show off D H b = none by unfold off; rw [if_pos e]] at h; cases h
  · rwa [off_ne e] at h
theorem off_upd {D : Addr} {H : Hp} {o : HO} : Same (off D H) (upd H D o) := fun b u h => by
  by_cases e : b = D
  · rw [show off D H b = none by unfold off; rw [if_pos e]] at h; cases h
  · rw [off_ne e] at h; rw [upd_ne e]; exact h
theorem off_off {D : Addr} {H : Hp} {o : HO} : off D (upd H D o) = off D H := by
  funext b; unfold off; split
  · rfl
  · rename_i h; exact upd_ne h
theorem off_mono {D : Addr} {H H' : Hp} (s : Same H H') : Same (off D H) (off D H') := fun b o h => by
  by_cases e : b = D
  · rw [show off D H b = none by unfold off; rw [if_pos e]] at h; cases h
  · rw [off_ne e] at h ⊢; exact s b o h
/-- a comprehension: f tells which data give, e what they give, S what stands for it -/
theorem DW.lc {β : Type} (dw : DW J ds R H0) {g : TG} {tt : TT} {te : TE} {vs : List Nat} {σ : L2.St} {H : Hp} {Q : Addr → Hp → Prop} {S : β → V → Hp → Prop} (mS : Mono S) (f : α → Bool) (e : α → β) (sm0 : Same H0 H) (hl : ds.length ≤ 1000000)
    (turn : ∀ D d v H', H D = none → d ∈ ds → Same H H' → (∃ ys, H' D = some (.lst ys)) → R d v H' → ∀ (Y : V → Hp → Prop) (N : Hp → Prop), (f d = true → ∀ y H4, Same H' H4 → S (e d) y (off D H4) → Y y H4) → (f d = false → ∀ H3, Same H' H3 → N H3) →
      g v (wipe σ vs) H' fun σ2 H2 => wipe σ2 vs = wipe σ vs ∧ tt σ2 H2 fun b H3 => if b = true then te σ2 H3 Y else N H3)
    (done : ∀ l ys H', H l = none → Same H H' → H' l = some (.lst ys) → All2 S ((ds.filter f).map e) ys H' → Q l H') : LcJ J g tt te vs σ H Q := by
  intro D hD
  have sD : Same H (upd H D (.lst [])) := fun b o h => by rw [upd_ne (ne_of_none h hD)]; exact h
  refine lc_it dw.w (fun i H' => Same H H' ∧ ∃ ys, H' D = some (.lst ys) ∧ All2 S (((ds.take i).filter f).map e) ys (off D H')) ⟨sD, [], upd_same, .nil⟩ (fun i H' _ p => sm0.trans p.1) (fun i v H' H2 hi p y => ?_) (fun H' p => ?_)
  · obtain ⟨sm, d, hd, rd⟩ := y
    obtain ⟨s1, ys, h1, h2⟩ := p
    have hm : d ∈ ds := List.mem_of_getElem? hd
    refine turn D d v H2 hD hm (s1.trans sm) ⟨ys, sm _ _ h1⟩ rd _ _ (fun hf w H4 s4 hS => ?_) (fun hf H3 s3 => ?_)
    · have g1 : H4 D = some (.lst ys) := s4 _ _ (sm _ _ h1)
      have hlen : ys.length ≤ ds.length := by
        rw [← h2.len, List.length_map]
        exact Nat.le_trans (List.length_filter_le _ _) (by rw [List.length_take]; omega)
      have hz : ys.length < sizeLine := by have := sizeLine_eq; omega
      have s5 : Same H (upd H4 D (.lst (ys ++ [w]))) := fun b o h => by
        rw [upd_ne (ne_of_none h hD)]
        exact s4 _ _ (sm _ _ (s1 _ _ h))
      refine ⟨ys, g1, hz, s5, ys ++ [w], upd_same, ?_⟩
      rw [take_snoc hd, List.filter_append, List.map_append, off_off]
      have e1 : [d].filter f = [d] := by simp [hf]
      rw [e1]
      exact All2.snoc (All2.mono mS (off_mono (sm.trans s4)) h2) hS
    · refine ⟨s1.trans (sm.trans s3), ys, s3 _ _ (sm _ _ h1), ?_⟩
      rw [take_snoc hd, List.filter_append, List.map_append]
      have e1 : [d].filter f = [] := by simp [hf]
      rw [e1]
      simpa using All2.mono mS (off_mono (sm.trans s3)) h2
  · rw [List.take_length] at p
    obtain ⟨s1, ys, h1, h2⟩ := p
    exact done D ys H' hD s1 h1 (All2.mono mS off_same h2)
/-- S leans on tuples alone -/
def MonoT {β : Type} (S : β → V → Hp → Prop) : Prop := ∀ d v H H', (∀ b xs, H b = some (.tup xs) → H' b = some (.tup xs)) → S d v H → S d v H'
theorem monoT_rV : MonoT rV := fun _ _ _ _ _ h => h
theorem monoT_rN : MonoT rN := fun _ _ _ _ _ h => h
theorem monoT_rI : MonoT rI := fun _ _ _ _ _ h => h
theorem monoT_rPath : MonoT rPath := fun _ _ _ _ s ⟨a, e, h⟩ => ⟨a, e, s _ _ h⟩
theorem MonoT.mono {β : Type} {S : β → V → Hp → Prop} (m : MonoT S) : Mono S := fun d v H H' s h => m d v H H' (fun b xs e => s b _ e) h
theorem DW.lcT {β : Type} (dw : DW J ds R H0) {g : TG} {tt : TT} {te : TE} {vs : List Nat} {σ : L2.St} {H : Hp} {Q : Addr → Hp → Prop} {S : β → V → Hp → Prop} (mS : MonoT S) (f : α → Bool) (e : α → β) (sm0 : Same H0 H) (hl : ds.length ≤ 1000000)
    (turn : ∀ d v H', d ∈ ds → Same H H' → R d v H' → ∀ (Y : V → Hp → Prop) (N : Hp → Prop), (f d = true → ∀ y H4, Same H' H4 → S (e d) y H4 → Y y H4) → (f d = false → ∀ H3, Same H' H3 → N H3) →
      g v (wipe σ vs) H' fun σ2 H2 => wipe σ2 vs = wipe σ vs ∧ tt σ2 H2 fun b H3 => if b = true then te σ2 H3 Y else N H3)
    (done : ∀ l ys H', H l = none → Same H H' → H' l = some (.lst ys) → All2 S ((ds.filter f).map e) ys H' → Q l H') : LcJ J g tt te vs σ H Q :=
  dw.lc mS.mono f e sm0 hl (fun D d v H' hD hm sm hq rd Y N hY hN => turn d v H' hm sm rd Y N (fun hf y H4 s4 hS => hY hf y H4 s4 (mS _ _ _ _ (fun b xs hb => by
    obtain ⟨ys, hq⟩ := hq
    have hne : b ≠ D := fun z => by
      subst z
      rw [s4 _ _ hq] at hb
      cases hb
    rw [off_ne hne]; exact hb) hS)) hN) done
end
/-! ### the walks -/
theorem dw_list {α : Type} {R : α → V → Hp → Prop} (m : Mono R) {K : PySem.W.Frag} {a : Addr} {vs : List V} {ds : List α} {H0 : Hp} (hl : SqL K H0 a vs) (hr : All2 R ds vs H0) : DW (Itl K a) ds R H0 := by
  have e := hr.len
  refine ⟨?_⟩
  rw [e]
  refine walk_list.mono (fun H s => s.seq hl) fun i H x H' _ s y => ?_
  obtain ⟨rfl, y⟩ := y
  obtain ⟨d, h1, h2⟩ := (All2.mono m s hr).get y
  exact ⟨Same.refl _, d, h1, h2⟩
theorem sameT {K : PySem.W.Frag} {H H' : Hp} {a : Addr} {xs : List V} (e : Same H H') (h : SqT K H a xs) : SqT K H' a xs := by
  rcases h with (h | ⟨o, h⟩) | h
  · exact .inl (.inl (e _ _ h))
  · exact .inl (.inr ⟨o, e _ _ h⟩)
  · exact .inr h
theorem dw_tup {α : Type} {R : α → V → Hp → Prop} (m : Mono R) {K : PySem.W.Frag} {a : Addr} {vs : List V} {ds : List α} {H0 : Hp} (hl : SqT K H0 a vs) (hr : All2 R ds vs H0) : DW (Itt K a) ds R H0 := by
  have e := hr.len
  refine ⟨?_⟩
  rw [e]
  refine walk_tup.mono (fun H s => sameT s hl) fun i H x H' _ s y => ?_
  obtain ⟨rfl, y⟩ := y
  obtain ⟨d, h1, h2⟩ := (All2.mono m s hr).get y
  exact ⟨Same.refl _, d, h1, h2⟩
theorem dw_range {n : Nat} {H0 : Hp} : DW (Itr 0 n) (List.range n) rN H0 := by
  refine ⟨?_⟩
  rw [List.length_range]
  refine walk_range.mono (fun H s => trivial) fun i H x H' hi s y => ?_
  obtain ⟨rfl, rfl⟩ := y
  refine ⟨Same.refl _, i, by simp [hi], ?_⟩
  show V.int ((0 : Int) + (i : Int)) = V.int (i : Int)
  rw [Int.zero_add]
theorem dw_str {z : PySem.Str} {H0 : Hp} : DW (Its z) z.cps.toList (fun (c : Nat) v _ => v = .str ⟨#[c]⟩) H0 := by
  refine ⟨?_⟩
  rw [show z.cps.toList.length = z.cps.size by simp]
  refine walk_str.mono (fun H s => trivial) fun i H x H' hi s y => ?_
  obtain ⟨rfl, c, h1, h2⟩ := y
  exact ⟨Same.refl _, c, by rw [← h1]; simp, h2⟩
/-- for .. in a list -/
theorem for_rl {α : Type} {R : α → V → Hp → Prop} {K : PySem.W.Frag} {g : TG} {tb : TS} {D : Ends} {σ : L2.St} {a : Addr} {vs : List V} {H H0 : Hp} {ds : List α} (m : Mono R) (hl : SqL K H0 a vs) (hr : All2 R ds vs H0) (Pv : List α → L2.St → Hp → Prop) (h0 : Pv [] σ H)
    (stay : ∀ pre σ' H', Pv pre σ' H' → Same H0 H') (turn : ∀ pre d post v σ' H', ds = pre ++ d :: post → Pv pre σ' H' → R d v H' → g v σ' H' fun σ2 H3 => tb { D with nx := Pv (pre ++ [d]), ct := Pv (pre ++ [d]), bk := D.nx } σ2 H3)
    (done : ∀ σ' H', Pv ds σ' H' → D.nx σ' H') : (∃ xs, SqL K H a xs) ∧ ForJ (Itl K a) g tb D σ H := by
  have hlen := hr.len
  refine ⟨⟨vs, (stay _ _ _ h0).seq hl⟩, for_list (xs := vs) (fun i σ' H' => Pv (ds.take i) σ' H') h0 (fun i σ' H' _ p => (stay _ _ _ p).seq hl) (fun i v σ' H' e p => ?_) (fun σ' H' p => ?_)⟩
  · obtain ⟨d, hd, rd⟩ := hr.get e
    have t := turn _ d _ v σ' H' (take_split hd) p (m _ _ _ _ (stay _ _ _ p) rd)
    rw [take_snoc hd]
    exact t
  · rw [← hlen, List.take_length] at p
    exact done σ' H' p
/-- for k in range(n) -/
theorem for_rg {g : TG} {tb : TS} {D : Ends} {σ : L2.St} {H : Hp} {n : Int} (hn : -1000000 ≤ n ∧ n ≤ 1000000) (Pv : Nat → L2.St → Hp → Prop) (h0 : Pv 0 σ H)
    (turn : ∀ (i : Nat) σ' H', (i : Int) < n → Pv i σ' H' → g (vn i) σ' H' fun σ2 H2 => tb { D with nx := Pv (i + 1), ct := Pv (i + 1), bk := D.nx } σ2 H2)
    (done : ∀ σ' H', Pv n.toNat σ' H' → D.nx σ' H') : -(2 ^ 62) ≤ n ∧ n < 2 ^ 62 ∧ ForJ (Itr 0 n.toNat) g tb D σ H := by
  refine ⟨by omega, by omega, for_range (lo := 0) (n := n.toNat) Pv h0 (fun i σ' H' hi p => ?_) done⟩
  have t := turn i σ' H' (by omega) p
  have e : (0 : Int) + (i : Int) = (i : Int) := Int.zero_add _
  show g (V.int (0 + (i : Int))) σ' H' _
  rw [e]
  exact t
/-- for k in range(lo, n), lo not negative -/
theorem for_rg2 {g : TG} {tb : TS} {D : Ends} {σ : L2.St} {H : Hp} {lo m : Nat} {n : Int} (hm : n = (lo : Int) + (m : Int)) (hn : lo ≤ 1000000 ∧ m ≤ 1000000) (Pv : Nat → L2.St → Hp → Prop) (h0 : Pv 0 σ H)
    (turn : ∀ (i : Nat) σ' H', i < m → Pv i σ' H' → g (vn (lo + i)) σ' H' fun σ2 H2 => tb { D with nx := Pv (i + 1), ct := Pv (i + 1), bk := D.nx } σ2 H2)
    (done : ∀ σ' H', Pv m σ' H' → D.nx σ' H') : (-(2 ^ 62) ≤ (lo : Int) ∧ (lo : Int) < 2 ^ 62 ∧ -(2 ^ 62) ≤ n ∧ n < 2 ^ 62) ∧ ForJ (Itr (lo : Int) (n - (lo : Int)).toNat) g tb D σ H := by
  have e : (n - (lo : Int)).toNat = m := by omega
  rw [e]
  refine ⟨⟨by omega, by omega, by omega, by omega⟩, for_range (lo := (lo : Int)) (n := m) Pv h0 (fun i σ' H' hi p => ?_) done⟩
  have t := turn i σ' H' hi p
  have e : (lo : Int) + (i : Int) = ((lo + i : Nat) : Int) := by omega
  show g (V.int ((lo : Int) + (i : Int))) σ' H' _
  rw [e]
  exact t
/-- [.. for .. in a tuple] -/
theorem lc_rt {α β : Type} {R : α → V → Hp → Prop} {S : β → V → Hp → Prop} {K : PySem.W.Frag} {g : TG} {tt : TT} {te : TE} {vs : List Nat} {σ : L2.St} {a : Addr} {xs : List V} {H : Hp} {Q : Addr → Hp → Prop} {ds : List α} (m : Mono R) (h1 : SqT K H a xs) (h2 : All2 R ds xs H) (mS : MonoT S) (f : α → Bool) (e : α → β) (hl : ds.length ≤ 1000000)
    (turn : ∀ d v H', d ∈ ds → Same H H' → R d v H' → ∀ (Y : V → Hp → Prop) (N : Hp → Prop), (f d = true → ∀ y H4, Same H' H4 → S (e d) y H4 → Y y H4) → (f d = false → ∀ H3, Same H' H3 → N H3) →
      g v (wipe σ vs) H' fun σ2 H2 => wipe σ2 vs = wipe σ vs ∧ tt σ2 H2 fun b H3 => if b = true then te σ2 H3 Y else N H3)
    (done : ∀ l ys H', H l = none → Same H H' → H' l = some (.lst ys) → All2 S ((ds.filter f).map e) ys H' → Q l H') : (∃ xs, SqT K H a xs) ∧ LcJ (Itt K a) g tt te vs σ H Q :=
  ⟨⟨xs, h1⟩, (dw_tup m h1 h2).lcT mS f e (Same.refl _) hl turn done⟩
/-- the same, any S -/
theorem lc_rlS {α β : Type} {R : α → V → Hp → Prop} {S : β → V → Hp → Prop} {K : PySem.W.Frag} {g : TG} {tt : TT} {te : TE} {vs : List Nat} {σ : L2.St} {a : Addr} {xs : List V} {H : Hp} {Q : Addr → Hp → Prop} {ds : List α} (m : Mono R) (h1 : SqL K H a xs) (h2 : All2 R ds xs H) (mS : Mono S) (f : α → Bool) (e : α → β) (hl : ds.length ≤ 1000000)
    (turn : ∀ D d v H', H D = none → d ∈ ds → Same H H' → (∃ ys, H' D = some (.lst ys)) → R d v H' → ∀ (Y : V → Hp → Prop) (N : Hp → Prop), (f d = true → ∀ y H4, Same H' H4 → S (e d) y (off D H4) → Y y H4) → (f d = false → ∀ H3, Same H' H3 → N H3) →
      g v (wipe σ vs) H' fun σ2 H2 => wipe σ2 vs = wipe σ vs ∧ tt σ2 H2 fun b H3 => if b = true then te σ2 H3 Y else N H3)
    (done : ∀ l ys H', H l = none → Same H H' → H' l = some (.lst ys) → All2 S ((ds.filter f).map e) ys H' → Q l H') : (∃ xs, SqL K H a xs) ∧ LcJ (Itl K a) g tt te vs σ H Q :=
  ⟨⟨xs, h1⟩, (dw_list m h1 h2).lc mS f e (Same.refl _) hl turn done⟩
/-- [.. for .. in a list], [.. for .. in range(n)], [.. for .. in a text] -/
theorem lc_rl {α β : Type} {R : α → V → Hp → Prop} {S : β → V → Hp → Prop} {K : PySem.W.Frag} {g : TG} {tt : TT} {te : TE} {vs : List Nat} {σ : L2.St} {a : Addr} {xs : List V} {H : Hp} {Q : Addr → Hp → Prop} {ds : List α} (m : Mono R) (h1 : SqL K H a xs) (h2 : All2 R ds xs H) (mS : MonoT S) (f : α → Bool) (e : α → β) (hl : ds.length ≤ 1000000)
    (turn : ∀ d v H', d ∈ ds → Same H H' → R d v H' → ∀ (Y : V → Hp → Prop) (N : Hp → Prop), (f d = true → ∀ y H4, Same H' H4 → S (e d) y H4 → Y y H4) → (f d = false → ∀ H3, Same H' H3 → N H3) →
      g v (wipe σ vs) H' fun σ2 H2 => wipe σ2 vs = wipe σ vs ∧ tt σ2 H2 fun b H3 => if b = true then te σ2 H3 Y else N H3)
    (done : ∀ l ys H', H l = none → Same H H' → H' l = some (.lst ys) → All2 S ((ds.filter f).map e) ys H' → Q l H') : (∃ xs, SqL K H a xs) ∧ LcJ (Itl K a) g tt te vs σ H Q := by
  exact ⟨⟨xs, h1⟩, (dw_list m h1 h2).lcT mS f e (Same.refl _) hl turn done⟩
theorem lc_rg {β : Type} {S : β → V → Hp → Prop} {g : TG} {tt : TT} {te : TE} {ws : List Nat} {σ : L2.St} {H : Hp} {Q : Addr → Hp → Prop} {n : Nat} (hn : n ≤ 1000000) (mS : MonoT S) (f : Nat → Bool) (e : Nat → β)
    (turn : ∀ d H', d < n → Same H H' → ∀ (Y : V → Hp → Prop) (N : Hp → Prop), (f d = true → ∀ y H4, Same H' H4 → S (e d) y H4 → Y y H4) → (f d = false → ∀ H3, Same H' H3 → N H3) →
      g (vn d) (wipe σ ws) H' fun σ2 H2 => wipe σ2 ws = wipe σ ws ∧ tt σ2 H2 fun b H3 => if b = true then te σ2 H3 Y else N H3)
    (done : ∀ l ys H', H l = none → Same H H' → H' l = some (.lst ys) → All2 S (((List.range n).filter f).map e) ys H' → Q l H') : -(2 ^ 62) ≤ (n : Int) ∧ (n : Int) < 2 ^ 62 ∧ LcJ (Itr 0 (n : Int).toNat) g tt te ws σ H Q :=
  ⟨by omega, by omega, (dw_range (n := n) (H0 := H)).lcT mS f e (Same.refl _) (by rw [List.length_range]; exact hn) (fun d v H' hd s r Y N hY hN => by
    have e1 : v = vn d := r
    subst e1
    exact turn d H' (List.mem_range.mp hd) s Y N hY hN) done⟩
theorem lc_rs {β : Type} {S : β → V → Hp → Prop} {g : TG} {tt : TT} {te : TE} {vs : List Nat} {σ : L2.St} {H : Hp} {Q : Addr → Hp → Prop} {z : PySem.Str} (mS : MonoT S) (f : Nat → Bool) (e : Nat → β) (hl : z.cps.toList.length ≤ 1000000)
    (turn : ∀ d H', d ∈ z.cps.toList → Same H H' → ∀ (Y : V → Hp → Prop) (N : Hp → Prop), (f d = true → ∀ y H4, Same H' H4 → S (e d) y H4 → Y y H4) → (f d = false → ∀ H3, Same H' H3 → N H3) →
      g (.str ⟨#[d]⟩) (wipe σ vs) H' fun σ2 H2 => wipe σ2 vs = wipe σ vs ∧ tt σ2 H2 fun b H3 => if b = true then te σ2 H3 Y else N H3)
    (done : ∀ l ys H', H l = none → Same H H' → H' l = some (.lst ys) → All2 S ((z.cps.toList.filter f).map e) ys H' → Q l H') : LcJ (Its z) g tt te vs σ H Q :=
  (dw_str (z := z) (H0 := H)).lcT mS f e (Same.refl _) hl (fun d v H' hd s r Y N hY hN => by
    have e1 : v = .str ⟨#[d]⟩ := r
    subst e1
    exact turn d H' hd s Y N hY hN) done

/-! ### the start of a def -/
theorem start_eq {N : List PySem.Str} {n : Nat} (hN : N.length = n) (vs : List V) : L2.start N vs = vs.map some ++ List.replicate (n - vs.length) none := by
  unfold L2.start
  rw [hN]
/-- what is wanted of a def's body -/
abbrev endsOf (Q : VK) : Ends := { nx := fun _ H' => Q .non H', rt := Q }
end LT

set_option Elab.async false
set_option linter.all false
set_option maxRecDepth 100000
set_option maxHeartbeats 4000000
namespace LT
open PySem PySem.Spec PyProof.Rows L2
local macro_rules | `(tactic| got_up) => `(tactic| repeat (first
  | refine ⟨_, rfl, ?_⟩
  | refine ⟨_, _, rfl, rfl, ?_⟩
  | refine ⟨rfl, ?_⟩
  | refine ⟨(.inl ⟨by decide, by decide⟩ : CMul _ _), ?_⟩
  | refine ⟨(by show (0 : Int) < _; first | decide | omega), ?_⟩
  | refine ⟨(⟨by first | decide | omega, by first | decide | omega⟩ : CDiv _ _), ?_⟩))
/-! LTc: votes, signs, the small defs of a law. -/
/-- a sign, or None -/
def SignV (v : V) : Prop := v = .non ∨ ∃ s, v = .str s
def cntV (ss : List V) (v : V) : Nat := ss.countP fun y => eqV y v
def majV (ss : List V) (v : V) : Prop := (ss.length : Int) < 2 * (cntV ss v : Int)
instance (ss : List V) (v : V) : Decidable (majV ss v) := by unfold majV; infer_instance
def voteM (ss : List V) : V := (ss.find? fun v => decide (majV ss v)).getD .non
theorem SignV.flat {v : V} (h : SignV v) : flatV v = true := by
  rcases h with rfl | ⟨s, rfl⟩ <;> rfl
theorem flats {ss : List V} (h : ∀ v ∈ ss, SignV v) : ss.all flatV = true := List.all_eq_true.mpr fun v hv => (h v hv).flat
theorem voteM_at {ss pre post : List V} {v : V} (e : ss = pre ++ v :: post) (hp : ∀ x ∈ pre, ¬ majV ss x) (m : majV ss v) : voteM ss = v := by
  unfold voteM
  have h1 : ss.find? (fun v => decide (majV ss v)) = some v := by
    rw [List.find?_eq_some_iff_append]
    exact ⟨decide_eq_true m, pre, post, e, fun x hx => by simpa using hp x hx⟩
  rw [h1]
  rfl
theorem voteM_none {ss : List V} (hp : ∀ x ∈ ss, ¬ majV ss x) : voteM ss = .non := by
  unfold voteM
  rw [List.find?_eq_none.mpr fun x hx => by simpa using hp x hx]
  rfl
theorem voteM_sign {ss : List V} (h : ∀ v ∈ ss, SignV v) : SignV (voteM ss) := by
  unfold voteM
  cases e : ss.find? (fun v => decide (majV ss v)) with
  | none => exact .inl rfl
  | some v => exact h v (List.mem_of_find?_eq_some e)
def cellM (ns : List Int) (k : Nat) : Int := ns.getD k 0
def lts : PySem.Str := "abcdefghijklmnopqrstuvwxyz"
theorem lts_list : lts.cps.toList = (List.range 26).map fun i => 97 + i := by decide +kernel
theorem lts_at {i : Int} (h0 : 0 ≤ i) (h1 : i < 26) : ∃ c, atI lts.cps.toList i = some c ∧ c ∈ lts.cps.toList := by
  obtain ⟨n, rfl⟩ := Int.eq_ofNat_of_zero_le h0
  have hn : n < 26 := by omega
  refine ⟨97 + n, atI_nat ?_, ?_⟩
  · rw [lts_list]; simp [hn]
  · rw [lts_list]; exact List.mem_map.mpr ⟨n, List.mem_range.mpr hn, rfl⟩
def LowS (s : PySem.Str) : Prop := ∀ c ∈ s.cps.toList, c ∈ lts.cps.toList
def GoodS (s : PySem.Str) : Prop := 1 ≤ s.length ∧ s.length ≤ 8 ∧ LowS s
theorem len_one (c : Nat) : (⟨#[c]⟩ : PySem.Str).length = 1 := rfl
theorem low_one {c : Nat} (h : c ∈ lts.cps.toList) : LowS ⟨#[c]⟩ := fun d hd => by
  have e : d = c := by simpa using hd
  rw [e]; exact h
theorem low_rep {s : PySem.Str} {n : Nat} (h : LowS s) : LowS (repS s n) := fun d hd => by
  rw [repS_list] at hd
  simp only [List.mem_flatten, List.mem_replicate] at hd
  obtain ⟨l, ⟨_, rfl⟩, hd⟩ := hd
  exact h d hd
theorem cat_list (s t : PySem.Str) : (s ++ t).cps.toList = s.cps.toList ++ t.cps.toList := by
  show (s.cps ++ t.cps).toList = _
  simp
theorem cat_len (s t : PySem.Str) : (s ++ t).length = s.length + t.length := by
  rw [Str.len_eq, cat_list, List.length_append, ← Str.len_eq, ← Str.len_eq]
theorem low_cat {s t : PySem.Str} (hs : LowS s) (ht : LowS t) : LowS (s ++ t) := fun d hd => by
  rw [cat_list] at hd
  rcases List.mem_append.mp hd with h | h
  · exact hs d h
  · exact ht d h
theorem line8 {n : Nat} (h : n ≤ 100000) : n ≤ sizeLine := Nat.le_trans h (by decide)

/-! ### flat values as data -/
def pd : V → PyData
  | .bl b => .bool b
  | .int i => .int i
  | .str x => .str x
  | _ => .none
theorem dp_pd {K : PySem.W.Frag} {H : Hp} {v : V} (h : flatV v = true) : Dp K H v (pd v) := by
  cases v with
  | non => exact .non
  | bl b => exact .bl b
  | int i => exact .int i
  | str x => exact .str x
  | _ => cases h
theorem dpAll_pd {K : PySem.W.Frag} {H : Hp} : ∀ {vs : List V}, vs.all flatV = true → DpAll K H vs (vs.map pd)
  | [], _ => .nil
  | v :: vs, h => by
    rw [List.all_cons, Bool.and_eq_true] at h
    exact .cons (dp_pd h.1) (dpAll_pd h.2)
theorem lay_all : ∀ {ds : List PyData}, (∀ d ∈ ds, d.canLay0 = true) → PyData.canLayAll0 ds = true
  | [], _ => rfl
  | d :: ds, h => by
    show (PyData.canLay0 d && PyData.canLayAll0 ds) = true
    rw [h d (by simp), lay_all fun x hx => h x (by simp [hx])]
    rfl
theorem depth_all {n : Nat} : ∀ {ds : List PyData}, (∀ d ∈ ds, d.depth ≤ n) → PyData.depthAll ds ≤ n
  | [], _ => Nat.zero_le _
  | d :: ds, h => by
    show max (PyData.depth d) (PyData.depthAll ds) ≤ n
    exact Nat.max_le.mpr ⟨h d (by simp), depth_all fun x hx => h x (by simp [hx])⟩
/-- may be compared, n deep at most -/
def Lay (n : Nat) (d : PyData) : Prop := d.canLay0 = true ∧ d.depth ≤ n
theorem Lay.list {n : Nat} {ds : List PyData} (h : ∀ d ∈ ds, Lay n d) : Lay (n + 1) (.list ds) := ⟨lay_all fun d hd => (h d hd).1, Nat.succ_le_succ (depth_all fun d hd => (h d hd).2)⟩
theorem Lay.tuple {n : Nat} {ds : List PyData} (h : ∀ d ∈ ds, Lay n d) : Lay (n + 1) (.tuple ds) := ⟨lay_all fun d hd => (h d hd).1, Nat.succ_le_succ (depth_all fun d hd => (h d hd).2)⟩
theorem Lay.shaped {n : Nat} {d : PyData} (h : Lay n d) (hn : n ≤ 64) : SeqAt.shaped d = true := by
  unfold SeqAt.shaped
  rw [h.1, decide_eq_true (Nat.le_trans h.2 hn)]
  rfl
theorem Lay.int {n : Nat} {i : Int} : Lay n (.int i) := ⟨rfl, Nat.zero_le _⟩
theorem lay_good {n : Nat} {s : PySem.Str} (h : LowS s) : Lay n (.str s) := ⟨by
  show PyData.strOk s = true
  unfold PyData.strOk
  rw [Array.all_eq_true']
  intro c hc
  have := h c (by simpa using hc)
  rw [lts_list] at this
  obtain ⟨i, hi, rfl⟩ := List.mem_map.mp this
  have := List.mem_range.mp hi
  exact decide_eq_true (by omega), Nat.zero_le _⟩
theorem SignG_lay {n : Nat} {v : V} (h : v = .non ∨ ∃ s, v = .str s ∧ LowS s) : Lay n (pd v) := by
  rcases h with rfl | ⟨s, rfl, h⟩
  · exact ⟨rfl, Nat.zero_le _⟩
  · exact lay_good h
/-- a good sign, or None -/
def SignG (v : V) : Prop := v = .non ∨ ∃ s, v = .str s ∧ GoodS s
theorem SignG.v {v : V} (h : SignG v) : SignV v := by
  rcases h with rfl | ⟨s, rfl, _⟩
  · exact .inl rfl
  · exact .inr ⟨s, rfl⟩
theorem SignG.lay {n : Nat} {v : V} (h : SignG v) : Lay n (pd v) := SignG_lay (by
  rcases h with rfl | ⟨s, rfl, h⟩
  · exact .inl rfl
  · exact .inr ⟨s, rfl, h.2.2⟩)
theorem voteM_good {ss : List V} (h : ∀ v ∈ ss, SignG v) : SignG (voteM ss) := by
  unfold voteM
  cases e : ss.find? (fun v => decide (majV ss v)) with
  | none => exact .inl rfl
  | some v => exact h v (List.mem_of_find?_eq_some e)
/-- what a law is asked -/
def sp_law (G : G3) : Sp := fun vs H Q _ => ∃ (a : Addr) (ns : List Int), vs = [.ref a] ∧ SqL G.K H a (ns.map V.int) ∧ ns.length ≤ 63 ∧ ∀ H', Q (.bl true) H'
def sp_vote (G : G3) : Sp := fun vs H Q _ => ∃ (a : Addr) (ss : List V), vs = [.ref a] ∧ SqL G.K H a ss ∧ (∀ v ∈ ss, SignV v) ∧ Q (voteM ss) H
def sp_l_cell_at (G : G3) : Sp := fun vs H Q _ => ∃ (a : Addr) (ns : List Int) (k : Nat), vs = [.ref a, .int (k : Int)] ∧ SqL G.K H a (ns.map V.int) ∧ Q (.int (cellM ns k)) H
def sp_l_same (G : G3) : Sp := fun vs H Q _ => ∃ v w : V, vs = [v, w] ∧ SignV v ∧ SignV w ∧ Q (.bl (decide (v = w))) H
def sp_l_signs (G : G3) : Sp := fun vs H Q _ => ∃ c : Int, vs = [.int c] ∧ ∀ (l : Addr) (ss : List PySem.Str) (H' : Hp), H l = none → Same H H' → ss.length = 4 → (∀ s ∈ ss, GoodS s) → H' l = some (.lst (ss.map V.str)) → Q (.ref l) H'
/-- vote: slots 0 signs 1 sign -/
def t_vote (G : G3) (E : XK) : TS :=
  (tSeq (tFor (iList G.K (tVar 0)) (gName 1) (tIfS (tTest (tOp oGt (tOp oMul (tC (.int 2)) (tBM G.K "list" (oCount G.K) (tVar 0) (tCons (tVar 1) tNil))) (tCB (oLen G.K) (tCons (tVar 0) tNil)))) (tRet (tVar 1)) tNext))
  (tRet (tC .non)))
/-- _law_cell_at: slots 0 _law_script 1 _law_k -/
def t_l_cell_at (G : G3) (E : XK) : TS :=
  (tSeq (tIfS (tTest (tOp oLt (tVar 1) (tCB (oLen G.K) (tCons (tVar 0) tNil)))) (tRet (tOp (rIxL G.K) (tVar 0) (tVar 1))) tNext)
  (tRet (tC (.int 0))))
/-- _law_same: slots 0 _law_found 1 _law_due -/
def t_l_same (G : G3) (E : XK) : TS :=
  (tSeq (tIfS (tTest (tOp oIsN (tVar 1) (tC .non))) (tRet (tOp oIsN (tVar 0) (tC .non))) tNext)
  (tRet (tAndV (tCB (rIsi G.K) (tCons (tVar 0) (tCons (tC (.ty "str")) tNil))) (tOp rEq (tVar 0) (tVar 1)))))
/-- _law_signs: slots 0 _law_cell 1 _law_letters 2 _law_size 3 _law_found 4 _law_k 5 _law_sign 6 _law_place 7 _law_ahead 8 _law_behind -/
def t_l_signs (G : G3) (E : XK) : TS :=
  (tSeq (tAsg (tC (.str ("abcdefghijklmnopqrstuvwxyz" : Str))) (gName 1))
  (tSeq (tAsg (tOp oAdd (tC (.int 1)) (tOp oMod (tOp oDiv (tVar 0) (tC (.int 3))) (tC (.int 8)))) (gName 2))
  (tSeq (tAsg (tLst tNil) (gName 3))
  (tSeq (tFor (iRng1 (tCons (tC (.int 4)) tNil)) (gName 4) (tSeq (tAsg (tOp rIxS (tVar 1) (tOp oMod (tOp oAdd (tOp oDiv (tVar 0) (tC (.int 24))) (tOp oMul (tC (.int 7)) (tVar 4))) (tC (.int 26)))) (gName 5))
  (tIfS (tTest (tOp rEq (tOp oMod (tVar 0) (tC (.int 3))) (tC (.int 0)))) (tDrop (tBM G.K "list" rAppend (tVar 3) (tCons (tOp oMulS (tOp rIxS (tVar 1) (tOp oMod (tOp oDiv (tVar 0) (tC (.int 24))) (tC (.int 26)))) (tOp oAdd (tC (.int 1)) (tOp oMul (tC (.int 2)) (tVar 4)))) tNil))) (tSeq (tAsg (tOp oMod (tOp oDiv (tVar 0) (tC (.int 5))) (tVar 2)) (gName 6))
  (tSeq (tAsg (tOp oMulS (tOp rIxS (tVar 1) (tVar 2)) (tVar 6)) (gName 7))
  (tSeq (tAsg (tOp oMulS (tOp rIxS (tVar 1) (tOp oAdd (tVar 2) (tOp oMod (tVar 0) (tC (.int 3))))) (tOp oSub (tOp oSub (tVar 2) (tC (.int 1))) (tVar 6))) (gName 8))
  (tDrop (tBM G.K "list" rAppend (tVar 3) (tCons (tOp oCatS (tOp oCatS (tVar 7) (tVar 5)) (tVar 8)) tNil)))))))))
  (tRet (tVar 3))))))
section
variable {G : G3} {N : List PySem.Str} {vs : List V} {H : Hp} {Q : VK} {E : XK}
theorem pure_vote (hN : N.length = 2) (h : sp_vote G vs H Q E) : t_vote G E (endsOf Q) (L2.start N vs) H := by
  obtain ⟨a, ss, rfl, hs, hv, q⟩ := h
  rw [start_eq hN]
  got_up
  refine for_rl (R := rV) (ds := ss) (K := G.K) mono_rV hs (all2_rV ss) (fun pre σ' H' => (∃ v, σ' = [some (.ref a), v]) ∧ H' = H ∧ ∀ x ∈ pre, ¬ majV ss x) ⟨⟨none, rfl⟩, rfl, by simp⟩ (fun _ _ _ p => by rw [p.2.1]; exact Same.refl _) ?_ ?_
  · rintro pre d post v σ' H' e ⟨⟨v', rfl⟩, rfl, hp⟩ rfl
    have hd : v ∈ ss := by rw [e]; simp
    got_up
    refine ⟨.inl ⟨rfl, _, hs⟩, ?_⟩
    got_up
    refine ⟨a, ss, _, rfl, rfl, hs, (hv _ hd).flat, flats hv, ?_⟩
    got_up
    refine ⟨a, ss, rfl, .inl hs, ?_⟩
    got_up
    refine ite2 (fun c => ?_) (fun c => ?_)
    · have m : majV ss v := of_decide_eq_true c
      got_up
      rw [voteM_at e hp m] at q
      exact q
    · have m : ¬ majV ss v := fun z => c (decide_eq_true z)
      refine ⟨⟨some v, rfl⟩, rfl, fun x hx => ?_⟩
      rcases List.mem_append.mp hx with h | h
      · exact hp x h
      · rw [List.mem_singleton.mp h]; exact m
  · rintro σ' H' ⟨⟨v', rfl⟩, rfl, hp⟩
    rw [voteM_none hp] at q
    exact q
theorem pure_l_cell_at (hN : N.length = 2) (h : sp_l_cell_at G vs H Q E) : t_l_cell_at G E (endsOf Q) (L2.start N vs) H := by
  obtain ⟨a, ns, k, rfl, hs, q⟩ := h
  rw [start_eq hN]
  got_up
  refine ⟨a, _, rfl, .inl hs, ?_⟩
  got_up
  have hlen : (ns.map V.int).length = ns.length := List.length_map ..
  refine ite2 (fun c => ?_) (fun c => ?_)
  · have c' : (k : Int) < ((ns.map V.int).length : Int) := of_decide_eq_true c
    have hk : k < ns.length := by omega
    got_up
    refine ⟨a, ns.map V.int, _, .int (cellM ns k), rfl, rfl, hs, atI_nat ?_, q⟩
    unfold cellM
    simp [hk]
  · have c' : ¬ (k : Int) < ((ns.map V.int).length : Int) := fun z => c (decide_eq_true z)
    have e : cellM ns k = 0 := by
      unfold cellM
      simp [List.getElem?_eq_none_iff.mpr (show ns.length ≤ k by omega)]
    rw [e] at q
    exact q
theorem pure_l_same (hN : N.length = 2) (h : sp_l_same G vs H Q E) : t_l_same G E (endsOf Q) (L2.start N vs) H := by
  obtain ⟨v, w, rfl, hv, hw, q⟩ := h
  rw [start_eq hN]
  got_up
  rcases hw with rfl | ⟨s, rfl⟩
  · refine iteT ?_
    got_up
    exact q
  · refine iteF ?_
    got_up
    rcases hv with rfl | ⟨t, rfl⟩
    · refine ⟨_, _, _, _, false, rfl, .ty _, .base .non, kit_ty (by decide +kernel), ?_⟩
      got_up
      exact iteF q
    · refine ⟨_, _, _, _, true, rfl, .ty _, .base (.str _), kit_ty (by decide +kernel), ?_⟩
      got_up
      exact q
theorem pure_l_signs (hN : N.length = 9) (h : sp_l_signs G vs H Q E) : t_l_signs G E (endsOf Q) (L2.start N vs) H := by
  obtain ⟨c, rfl, q⟩ := h
  rw [start_eq hN]
  got_up
  refine ⟨Nat.zero_le _, fun f nf => ?_⟩
  got_up
  have hz1 : 0 ≤ c / 3 % 8 := Int.emod_nonneg _ (by decide)
  have hz2 : c / 3 % 8 < 8 := Int.emod_lt_of_pos _ (by decide)
  have hL : ("abcdefghijklmnopqrstuvwxyz" : PySem.Str) = lts := rfl
  refine for_rg (n := 4) ⟨by decide, by decide⟩ (fun i σ' H' => (∃ v4 v5 v6 v7 v8, σ' = [some (.int c), some (.str lts), some (.int (1 + c / 3 % 8)), some (.ref f), v4, v5, v6, v7, v8]) ∧ Same H H' ∧ ∃ ss : List PySem.Str, ss.length = i ∧ (∀ s ∈ ss, GoodS s) ∧ H' f = some (.lst (ss.map V.str)))
    ⟨⟨none, none, none, none, none, rfl⟩, fun b o e => by rw [upd_ne (ne_of_none e nf)]; exact e, [], rfl, by simp, upd_same⟩ ?_ ?_
  · rintro i σ' H' hi ⟨⟨v4, v5, v6, v7, v8, rfl⟩, sm, ss, hl, hg, hf⟩
    have hz : ss.length ≤ 100000 := by omega
    have fin : ∀ (s : PySem.Str) (H2 : Hp), GoodS s → H2 = upd H' f (.lst (ss.map V.str ++ [.str s])) → Same H H2 ∧ ∃ ss' : List PySem.Str, ss'.length = i + 1 ∧ (∀ s ∈ ss', GoodS s) ∧ H2 f = some (.lst (ss'.map V.str)) := by
      rintro s H2 hs rfl
      refine ⟨fun b o e => by rw [upd_ne (ne_of_none e nf)]; exact sm b o e, ss ++ [s], by simp [hl], fun x hx => ?_, ?_⟩
      · rcases List.mem_append.mp hx with h | h
        · exact hg x h
        · rw [List.mem_singleton.mp h]; exact hs
      · rw [upd_same, List.map_append]; rfl
    have hm : (ss.map V.str).length < sizeLine := by
      rw [List.length_map]
      exact Nat.lt_of_le_of_lt (show ss.length ≤ 1000 by omega) (by decide)
    obtain ⟨c1, hc1, lc1⟩ := lts_at (i := (c / 24 + 7 * (i : Int)) % 26) (Int.emod_nonneg _ (by decide)) (Int.emod_lt_of_pos _ (by decide))
    got_up
    refine ⟨lts, _, c1, rfl, rfl, by decide, hc1, ?_⟩
    got_up
    refine ite2 (fun e => ?_) (fun e => ?_)
    · got_up
      refine ⟨.inl ⟨rfl, _, SqL.of hf⟩, ?_⟩
      obtain ⟨c2, hc2, lc2⟩ := lts_at (i := (c / 24) % 26) (Int.emod_nonneg _ (by decide)) (Int.emod_lt_of_pos _ (by decide))
      got_up
      refine ⟨lts, _, c2, rfl, rfl, by decide, hc2, ?_⟩
      got_up
      refine ⟨by rw [len_one]; decide, by omega, by omega, ?_⟩
      got_up
      refine ⟨f, _, _, rfl, rfl, hf, hm, ?_⟩
      refine ⟨⟨_, _, _, _, _, rfl⟩, fin _ _ ⟨?_, ?_, low_rep (low_one lc2)⟩ rfl⟩
      · rw [repS_len, len_one]; omega
      · rw [repS_len, len_one]; omega
    · have hz3 : 0 ≤ c / 5 % (1 + c / 3 % 8) := Int.emod_nonneg _ (by omega)
      have hz4 : c / 5 % (1 + c / 3 % 8) < 1 + c / 3 % 8 := Int.emod_lt_of_pos _ (by omega)
      have hz5 : 0 ≤ c % 3 := Int.emod_nonneg _ (by decide)
      have hz6 : c % 3 < 3 := Int.emod_lt_of_pos _ (by decide)
      got_up
      obtain ⟨c2, hc2, lc2⟩ := lts_at (i := 1 + c / 3 % 8) (by omega) (by omega)
      refine ⟨lts, _, c2, rfl, rfl, by decide, hc2, ?_⟩
      got_up
      refine ⟨by rw [len_one]; decide, by omega, by omega, ?_⟩
      got_up
      obtain ⟨c3, hc3, lc3⟩ := lts_at (i := 1 + c / 3 % 8 + c % 3) (by omega) (by omega)
      refine ⟨lts, _, c3, rfl, rfl, by decide, hc3, ?_⟩
      got_up
      refine ⟨by rw [len_one]; decide, by omega, by omega, ?_⟩
      got_up
      refine ⟨.inl ⟨rfl, _, SqL.of hf⟩, ?_⟩
      got_up
      refine ⟨by rw [repS_len, len_one, len_one]; exact line8 (by omega), ?_⟩
      got_up
      refine ⟨by rw [cat_len, repS_len, repS_len, len_one, len_one, len_one]; exact line8 (by omega), ?_⟩
      got_up
      refine ⟨f, _, _, rfl, rfl, hf, hm, ?_⟩
      refine ⟨⟨_, _, _, _, _, rfl⟩, fin _ _ ⟨?_, ?_, low_cat (low_cat (low_rep (low_one lc2)) (low_one lc1)) (low_rep (low_one lc3))⟩ rfl⟩
      · rw [cat_len, cat_len, repS_len, repS_len, len_one, len_one, len_one]; omega
      · rw [cat_len, cat_len, repS_len, repS_len, len_one, len_one, len_one]; omega
  · rintro σ' H' ⟨⟨v4, v5, v6, v7, v8, rfl⟩, sm, ss, hl, hg, hf⟩
    got_up
    exact q f ss H' nf sm hl hg hf
end
end LT

set_option Elab.async false
set_option linter.all false
set_option maxRecDepth 100000
set_option maxHeartbeats 4000000
/-! LTd: sum of lists. -/
namespace LT
open PySem PySem.Spec PyProof.Rows L2
section
variable {prog : Program} {w : World} {A : Around} {R : Result → Shared → Prop}
theorem isL_size {h : Heap} {a : Addr} {o : Obj} (e : h.get? a = some o) : a < h.objs.size := Heap.lt_size e
/-- the loop of sum over lists: r holds what is added so far -/
theorem sumL_loop {I : Addr} {fp wr : List Addr} {n : Nat} {Pw : Nat → Value → Prop} {St : Nat → Heap → Prop} (W : Walks prog w A.in1 I fp wr n Pw St) (B : Heap) (xss : List (List Value)) (hn : xss.length = n)
    (hval : ∀ i v, Pw i v → ∃ (a : Addr) (its : List Value) (c : Nat), v = .ref a ∧ xss[i]? = some its ∧ B.get? a = some { cls := .type "list", data := .seq its.toArray c })
    (hz : xss.flatten.length ≤ sizeLine) (S : Addr) (hSf : S ∉ fp) (hex : ∀ i h, St i h → ∀ b ∈ fp, b < h.objs.size) (hwB : ∀ b ∈ wr, B.get? b = none) :
    ∀ (k i : Nat) (s : Shared) (r : Addr) (c c2 : Nat), n - i = k → i ≤ n → St i s.heap → s.heap.get? S = some { cls := .type "list", dict := none, data := .seq #[.ref r] c, slots := #[] } →
      s.heap.get? r = some { cls := .type "list", data := .seq ((xss.take i).flatten).toArray c2 } → (r ≠ S ∧ r ∉ wr) → (i = 0 ∨ B.objs.size ≤ r) → (∀ b o, B.get? b = some o → s.heap.get? b = some o) →
      B.objs.size ≤ S → (∀ h' tk r' c', (∀ b o, B.get? b = some o → h'.get? b = some o) → h'.get? r' = some { cls := .type "list", data := .seq xss.flatten.toArray c' } → (n = 0 ∨ B.objs.size ≤ r') → R (.ok (.ret (.ref r'))) { s with heap := h', toks := tk }) →
      codeAny (model prog w) A (.builtin "sum.loop" ⟨[.ref I, .ref S, rawInt 2, rawInt 0], []⟩) R s := by
  have hSw : S ∉ wr := fun h => hSf (W.sub _ h)
  intro k
  induction k with
  | zero =>
    intro i s r c c2 hk hi hst hS hr hne h0 hB hSB hR
    have hin : i = n := by omega
    subst hin
    refine codeAny_builtin F.entry_sum_loop ?_
    rw [Around.under_plainId F.plain_sum_loop _]
    show wpAny _ A.in1 (seqItems? (.ref S) >>= _) _ _ s
    refine wpAny_bind (wpAny_seqItems hS rfl ?_)
    show wpAny _ A.in1 (tryCatch (pyNext (.ref I)) _ >>= _) _ _ s
    refine wpAny_bind (wpAny_tryCatch (W.done s _ _ hst fun h' tk hk' => ?_))
    refine wpAny_pure (hR h' tk r c2 (fun b o e => hk' b o (fun hb => ?_) (hB b o e)) ?_ h0)
    · rw [hwB b hb] at e; cases e
    · rw [← hn, List.take_length] at hr
      exact hk' _ _ hne.2 hr
  | succ k ih =>
    intro i s r c c2 hk hi hst hS hr hne h0 hB hSB hR
    have hlt : i < n := by omega
    refine codeAny_builtin F.entry_sum_loop ?_
    rw [Around.under_plainId F.plain_sum_loop _]
    show wpAny _ A.in1 (seqItems? (.ref S) >>= _) _ _ s
    refine wpAny_bind (wpAny_seqItems hS rfl ?_)
    show wpAny _ A.in1 (tryCatch (pyNext (.ref I)) _ >>= _) _ _ s
    refine wpAny_bind (wpAny_tryCatch (W.item i s _ _ hlt hst fun v h' tk hP hst' hk' => ?_))
    obtain ⟨a, its, ca, rfl, hx, ha⟩ := hval i v hP
    have hS' := hk' S _ hSw hS
    have hr' := hk' r _ hne.2 hr
    have ha' : h'.get? a = some { cls := .type "list", data := .seq its.toArray ca } := hk' a _ (fun hb => by rw [hwB a hb] at ha; cases ha) (hB a _ ha)
    have hle : ((xss.take i).flatten).length + its.length ≤ sizeLine := by
      refine Nat.le_trans ?_ hz
      have e1 : xss = xss.take i ++ its :: xss.drop (i + 1) := take_split hx
      rw [e1, List.flatten_append, List.flatten_cons, List.length_append, List.length_append, List.take_append_of_le_length (by rw [List.length_take]; omega), List.take_take, Nat.min_self]
      omega
    show wpAny _ A.in1 ((holding [.ref a] (binaryOp .Add (.ref r) (.ref a))).attempt >>= _) _ _ _
    refine wpAny_bind (wpAny_attempt (wpAny_holding (PySem.P.add_list (s := { s with heap := h', toks := tk }) hr' ha' ?_ (by rw [List.size_toArray, List.size_toArray]; exact hle))))
    have hpS : S < h'.objs.size := isL_size hS'
    have hfp' := hex _ _ hst'
    show wpAny _ A.in1 (updateSeq S (fun _ => #[.ref h'.objs.size]) >>= _) _ _ _
    have hS2 : (h'.push { cls := .type "list", data := .seq (((xss.take i).flatten).toArray ++ its.toArray) }).get? S = some { cls := .type "list", dict := none, data := .seq #[.ref r] c, slots := #[] } := Heap.get?_push_of_some _ hS'
    refine wpAny_bind (wpAny_updateSeq hS2 rfl ?_)
    refine wpAny_bind (wpAny_letGo ?_)
    show wpAny _ A.in1 (updateSeq S (fun _ => #[.ref h'.objs.size]) >>= _) _ _ _
    have hS3 := Heap.get?_update_self (Obj.mapSeq fun _ => #[Value.ref h'.objs.size]) hS2 rfl
    refine wpAny_bind (wpAny_updateSeq hS3 rfl ?_)
    have hS4 := Heap.get?_update_self (Obj.mapSeq fun _ => #[Value.ref h'.objs.size]) hS3 rfl
    have keep : ∀ b o, b ≠ S → h'.get? b = some o → ((((h'.push { cls := .type "list", data := .seq (((xss.take i).flatten).toArray ++ its.toArray) }).update S (Obj.mapSeq fun _ => #[Value.ref h'.objs.size])).update S (Obj.mapSeq fun _ => #[Value.ref h'.objs.size]))).get? b = some o := fun b o hb e => by
      rw [Heap.get?_update_other _ _ (Ne.symm hb), Heap.get?_update_other _ _ (Ne.symm hb)]
      exact Heap.get?_push_of_some _ e
    have hpB : B.objs.size ≤ h'.objs.size := Nat.le_trans hSB (Nat.le_of_lt hpS)
    have hpn : S ≠ h'.objs.size := Nat.ne_of_lt hpS
    refine wpAny_pure ⟨plainId_quiet F.plain_sum_loop _, ih (i + 1) _ h'.objs.size _ 0 (by omega) hlt (W.frame _ _ _ hst' fun b hb o e => keep b o (fun z => hSf (z ▸ hb)) e) hS4 ?_ ⟨Ne.symm hpn, fun hb => ?_⟩ (.inr hpB) (fun b o e => keep b o (fun z => ?_) (hk' b o (fun hb => ?_) (hB b o e))) hSB ?_⟩
    · rw [Heap.get?_update_other _ _ hpn, Heap.get?_update_other _ _ hpn, Heap.get?_push_size _ rfl]
      rw [take_snoc hx, List.flatten_append]
      simp
    · exact absurd (hfp' _ (W.sub _ hb)) (Nat.lt_irrefl _)
    · rw [z] at e; exact absurd (Nat.lt_of_lt_of_le (isL_size e) hSB) (Nat.lt_irrefl _)
    · rw [hwB b hb] at e; cases e
    · exact fun h'' tk' r' c' h1 h2 h3 => hR h'' tk' r' c' h1 h2 h3
end
theorem args_sum_2 (a b : Value) : argsOk "sum" ⟨[a, b], []⟩ := by unfold argsOk; kernel_rfl
theorem sub_l_bytes : isSubtype (.type "list") (.type "bytes") = pure false := by rw [isSubtype_type]; kernel_rfl
theorem sub_l_bytearray : isSubtype (.type "list") (.type "bytearray") = pure false := by rw [isSubtype_type]; kernel_rfl
theorem sub_l_str : isSubtype (.type "list") (.type "str") = pure false := by rw [isSubtype_type]; kernel_rfl
/-- the lists' items, as the machine has them -/
theorem lists_at {X : Cx} {pins : List (Addr × Obj)} {σ : L2.St} {H : Hp} {s : Shared} (I : L2.Inv X pins σ H s) : ∀ {ls : List Addr} {xss : List (List V)}, Paired (fun l xs => H l = some (.lst xs)) ls xss →
    ∃ iss : List (List Value), iss.length = ls.length ∧ Vals xss.flatten iss.flatten ∧ ∀ (i : Nat) (l : Addr), ls[i]? = some l → ∃ (its : List Value) (c : Nat), iss[i]? = some its ∧ s.heap.get? l = some { cls := .type "list", data := .seq its.toArray c }
  | _, _, .nil => ⟨[], rfl, .nil, fun i l e => by simp at e⟩
  | l :: ls, xs :: xss, .cons h t => by
    obtain ⟨iss, h1, h2, h3⟩ := lists_at I t
    obtain ⟨z, its, n, r, hl, e⟩ := I.lstM h
    refine ⟨its :: iss, by simp [h1], by simpa using r.append h2, fun i l' e' => ?_⟩
    cases i with
    | zero =>
      have : l = l' := by simpa using e'
      subst this
      exact ⟨its, n, rfl, e⟩
    | succ i =>
      obtain ⟨its', c, g1, g2⟩ := h3 i l' (by simpa using e')
      exact ⟨its', c, by simpa using g1, g2⟩
abbrev oSumL (K : PySem.W.Frag) : List V → Hp → VK → Prop := fun vs H Q => ∃ (a b : Addr) (ls : List Addr) (xss : List (List V)), vs = [.ref a, .ref b] ∧ SqL K H a (ls.map V.ref) ∧ Paired (fun l xs => H l = some (.lst xs)) ls xss ∧ H b = some (.lst []) ∧ xss.flatten.length ≤ 1000000 ∧ ls ≠ [] ∧
  ∀ r, H r = none → Q (.ref r) (upd H r (.lst xss.flatten))
theorem cr_sumL {X : Cx} (hc : X.calm = true) : CallR X (.builtin "sum") (oSumL X.K) := by
  intro pins s σ H vs us Q I r h
  obtain ⟨a, b, ls, xss, rfl, hs, hx, hb, hz, hne, q⟩ := h
  obtain ⟨its, rv, hl, _⟩ := I.list hs
  obtain ⟨u1, u2, rfl, r1, r2⟩ := vals2 r
  cases (show u1 = Value.ref a from r1)
  cases (show u2 = Value.ref b from r2)
  obtain ⟨iss, h1, h2, h3⟩ := lists_at I hx
  obtain ⟨zb, itb, nb, rb, hlb, eb⟩ := I.lstM hb
  have eitb : itb = [] := by cases rb; rfl
  subst eitb
  have hfl : xss.flatten.length = iss.flatten.length := h2.length
  have hits : its.toArray.size = iss.length := by
    rw [List.size_toArray, ← rv.length, List.length_map, h1]
  refine call_function_tree F.kind_sum F.plain_sum F.entry_sum (args_sum_2 _ _) ?_
  unfold Builtin.«sum»
  simp only [List.length_cons, List.length_nil]
  rw [if_neg (by decide)]
  refine wpAny_bind (wpAny_of_eq (show Builtin.Builtins.bindParams "sum" ["start"] 0 ⟨[.ref b], []⟩ = pure [some (.ref b)] from rfl) ?_)
  refine wpAny_bind (iter_any hl.isList fun s₂ e2 st hne2 => ?_)
  have tb : ∀ hp : Heap, (∀ o, s.heap.get? b = some o → hp.get? b = some o) → Shared.TypeIs { s with heap := hp } (.ref b) "list" := fun hp k => ⟨_, k _ eb, rfl⟩
  subst e2
  have tb2 := tb _ fun o e => Heap.get?_push_of_some { cls := .type "list_iterator", data := .fields #[.ref a, .int 0 0] } e
  refine wpAny_bind (wpAny_pure ?_)
  simp only [List.forIn_cons, List.forIn_nil]
  refine wpAny_bind (wpAny_bind (wpAny_bind (wpAny_isInstance (T := "list") (b := false) tb2 sub_l_str ?_)))
  simp only [Bool.false_eq_true, if_false]
  refine wpAny_pure (wpAny_bind (wpAny_bind (wpAny_isInstance (T := "list") (b := false) tb2 sub_l_bytes ?_)))
  simp only [Bool.false_eq_true, if_false]
  refine wpAny_pure (wpAny_bind (wpAny_bind (wpAny_isInstance (T := "list") (b := false) tb2 sub_l_bytearray ?_)))
  simp only [Bool.false_eq_true, if_false]
  refine wpAny_pure (wpAny_pure ?_)
  refine wpAny_bind (wpAny_newObj_type ?_)
  have hn0 : its.toArray.size ≠ 0 := by
    rw [hits, h1]
    exact fun z => hne (List.length_eq_zero_iff.mp z)
  have hsz : (s.heap.push { cls := .type "list_iterator", data := .fields #[.ref a, .int 0 0] }).objs.size = s.heap.objs.size + 1 := by simp [Heap.push]
  refine wpAny_pure ⟨plainId_quiet F.plain_sum_loop _, sumL_loop (Walks.list (A := X.A.in1) (I.ok.hd hc) s.heap.objs.size a hne2 its.toArray) s.heap iss hits.symm (fun i v hv => ?_) (by rw [← hfl]; have := sizeLine_eq; omega) _ ?_ (fun i hp st' b' hb' => ?_) (fun b' hb' => ?_)
    its.toArray.size 0 _ b 0 nb rfl (Nat.zero_le _) ?_ (Heap.get?_push_size _ rfl) ?_ ⟨?_, ?_⟩ (.inl rfl) (fun b' o e => Heap.get?_push_of_some _ (Heap.get?_push_of_some _ e)) (Nat.le_trans (Nat.le_succ _) (Nat.le_of_eq hsz.symm)) ?_⟩
  · have hv' : its[i]? = some v := by simpa using hv
    have hlen := rv.length
    have hi : i < ls.length := by
      have := (List.getElem?_eq_some_iff.mp hv').1
      rw [← hlen, List.length_map] at this
      exact this
    have hv2 : ls[i]? = some ls[i] := List.getElem?_eq_getElem hi
    obtain ⟨its', c, g1, g2⟩ := h3 i _ hv2
    refine ⟨ls[i], its', c, ?_, g1, g2⟩
    obtain ⟨u, gu, ru⟩ := rv.get (i := i) (x := .ref ls[i]) (by rw [List.getElem?_map, hv2]; rfl)
    rw [hv'] at gu
    cases gu
    exact ru
  · intro hm
    have hal : a < s.heap.objs.size := by obtain ⟨_, e, _⟩ := hl.isList; exact isL_size e
    rcases List.mem_cons.mp hm with e | hm
    · exact Nat.succ_ne_self _ (hsz.symm.trans e)
    · rcases List.mem_cons.mp hm with e | hm
      · exact Nat.lt_irrefl _ (Nat.lt_of_le_of_lt (Nat.le_trans (Nat.le_succ _) (Nat.le_of_eq (hsz.symm.trans e))) hal)
      · cases hm
  · obtain ⟨⟨o1, g1, _⟩, ⟨o2, g2, _⟩⟩ := st'
    rcases List.mem_cons.mp hb' with e | hb'
    · rw [e]; exact isL_size g1
    · rcases List.mem_cons.mp hb' with e | hb'
      · rw [e]; exact isL_size g2
      · cases hb'
  · rcases List.mem_cons.mp hb' with e | hb'
    · rw [e]; exact Heap.get?_none_of_le (Nat.le_refl _)
    · cases hb'
  · exact ⟨st.1.at fun o e => Heap.get?_push_of_some _ e, st.2.at fun o e => Heap.get?_push_of_some _ e⟩
  · exact Heap.get?_push_of_some _ (Heap.get?_push_of_some _ eb)
  · have hbl := isL_size eb
    intro z
    exact Nat.lt_irrefl _ (Nat.lt_of_le_of_lt (Nat.le_trans (Nat.le_succ _) (Nat.le_of_eq (hsz.symm.trans (Eq.symm z)))) hbl)
  · have hbl := isL_size eb
    intro z
    rcases List.mem_cons.mp z with e | z
    · exact Nat.lt_irrefl _ (e ▸ hbl)
    · cases z
  · intro h' tk r' c' hk hr' hcase
    have hr2 : s.heap.objs.size ≤ r' := by
      rcases hcase with z | z
      · exact absurd z hn0
      · exact z
    refine ⟨.ref r', _, I.laid (o := .lst xss.flatten) (t' := tk) hk hr2 ⟨by have := sizeLine_eq; omega, iss.flatten, c', h2, hr'⟩, rfl, q r' (I.hok.fresh hr2)⟩
end LT

set_option Elab.async false
set_option linter.all false
set_option maxRecDepth 100000
set_option maxHeartbeats 4000000
namespace LT
open PySem PySem.Spec PyProof.Rows L2
local macro_rules | `(tactic| got_up) => `(tactic| repeat (first
  | refine ⟨_, rfl, ?_⟩
  | refine ⟨_, _, rfl, rfl, ?_⟩
  | refine ⟨rfl, ?_⟩
  | refine ⟨_, _, rfl, ?_⟩
  | refine ⟨(.inl ⟨by decide, by decide⟩ : CMul _ _), ?_⟩
  | refine ⟨(by show (0 : Int) < _; first | decide | omega), ?_⟩
  | refine ⟨(⟨by first | decide | omega, by first | decide | omega⟩ : CDiv _ _), ?_⟩))
/-! LTe: hands, paths. -/
/-! ### the mathematics -/
def hearersM (n : Nat) (p : List Nat) : List Nat := (List.range n).filter fun h => decide (h ∉ p)
def stepM (n : Nat) (ps : List (List Nat)) : List (List Nat) := ps.flatMap fun p => (hearersM n p).map fun h => p ++ [h]
def itM (n : Nat) : Nat → List (List Nat)
  | 0 => [[0]]
  | k + 1 => stepM n (itM n k)
/-- all paths of k hands, k ≥ 1, that have a hearer -/
def pathsOf (n k : Nat) : List (List Nat) := if k < n then itM n (k - 1) else []
def pathsM (n m : Nat) : List (List Nat) := (List.range (m + 1)).flatMap fun k => pathsOf n (k + 1)
theorem hearersM_len (n : Nat) (p : List Nat) : (hearersM n p).length ≤ n := by
  unfold hearersM
  exact Nat.le_trans (List.length_filter_le _ _) (by rw [List.length_range]; exact Nat.le_refl _)
theorem mem_hearersM {n h : Nat} {p : List Nat} : h ∈ hearersM n p ↔ h < n ∧ h ∉ p := by
  unfold hearersM
  simp [List.mem_filter, List.mem_range]
theorem itM_len {n : Nat} : ∀ {k : Nat} {p : List Nat}, p ∈ itM n k → p.length = k + 1
  | 0, p, h => by
    have : p = [0] := List.mem_singleton.mp h
    rw [this]; rfl
  | k + 1, p, h => by
    obtain ⟨q, hq, hp⟩ := List.mem_flatMap.mp h
    obtain ⟨x, _, rfl⟩ := List.mem_map.mp hp
    rw [List.length_append, itM_len hq]
    rfl
theorem flatMap_len {α β : Type} {f : α → List β} {m : Nat} (h : ∀ x, (f x).length ≤ m) : ∀ l : List α, (l.flatMap f).length ≤ l.length * m
  | [] => by simp
  | x :: l => by
    rw [List.flatMap_cons, List.length_append, List.length_cons, Nat.succ_mul, Nat.add_comm]
    exact Nat.add_le_add (flatMap_len h l) (h x)
theorem stepM_len (n : Nat) (ps : List (List Nat)) : (stepM n ps).length ≤ ps.length * n :=
  flatMap_len (fun p => by rw [List.length_map]; exact hearersM_len n p) ps
theorem itM_count {n : Nat} : ∀ k, (itM n k).length ≤ n ^ k
  | 0 => by simp [itM]
  | k + 1 => by
    rw [Nat.pow_succ]
    exact Nat.le_trans (stepM_len n _) (Nat.mul_le_mul_right n (itM_count k))
/-- the program's step: no path that all are on -/
def longerM (n : Nat) (ps : List (List Nat)) : List (List Nat) := ps.flatMap fun p => if p.length + 1 < n then (hearersM n p).map fun h => p ++ [h] else []
theorem longerM_eq {n k : Nat} (h : k + 2 < n) : longerM n (itM n k) = itM n (k + 1) := by
  show (itM n k).flatMap _ = (itM n k).flatMap _
  unfold List.flatMap
  congr 1
  refine List.map_congr_left fun p hp => ?_
  rw [itM_len hp, if_pos h]
theorem longerM_nil {n k : Nat} (h : ¬ k + 2 < n) : longerM n (itM n k) = [] := by
  show (itM n k).flatMap _ = []
  rw [List.flatMap_eq_nil_iff]
  intro p hp
  rw [itM_len hp, if_neg h]
theorem longerM_of {n k : Nat} (h1 : 1 ≤ k) : longerM n (pathsOf n k) = pathsOf n (k + 1) := by
  unfold pathsOf
  by_cases h : k < n
  · rw [if_pos h]
    by_cases h2 : k + 1 < n
    · rw [if_pos h2, longerM_eq (by omega)]
      congr 1
      omega
    · rw [if_neg h2, longerM_nil (by omega)]
  · rw [if_neg h, if_neg (by omega)]
    rfl
theorem pathsOf_count {n k : Nat} (hn : n ≤ 10) (hk : k ≤ 3) : (pathsOf n k).length ≤ 100 := by
  unfold pathsOf
  split
  · refine Nat.le_trans (itM_count _) ?_
    refine Nat.le_trans (Nat.pow_le_pow_left hn _) ?_
    exact Nat.pow_le_pow_right (by decide) (show k - 1 ≤ 2 by omega)
  · simp
theorem inV_vn (d : Nat) : ∀ p : List Nat, inV (vn d) (p.map vn) = decide (d ∈ p)
  | [] => rfl
  | x :: p => by
    have ih := inV_vn d p
    unfold inV at ih ⊢
    rw [List.map_cons, List.any_cons, ih]
    have e : eqV (vn x) (vn d) = decide (d = x) := by
      show ((x : Int) == (d : Int)) = decide (d = x)
      by_cases h : d = x
      · subst h; simp
      · rw [decide_eq_false h]
        exact beq_eq_false_iff_ne.mpr (by omega)
    rw [e]
    by_cases h : d = x <;> simp [h]
theorem flat_vn : ∀ p : List Nat, (p.map vn).all flatV = true
  | [] => rfl
  | x :: p => by
    rw [List.map_cons, List.all_cons, flat_vn p]
    rfl

/-! ### promises -/
/-- a new list that stands for ds is given back; what stood stands -/
def Fresh {α : Type} (R : α → V → Hp → Prop) (ds : List α) (H : Hp) (Q : VK) : Prop := ∀ (l : Addr) (ys : List V) (H' : Hp), H l = none → Same H H' → H' l = some (.lst ys) → All2 R ds ys H' → Q (.ref l) H'
/-- a value whose kind is known -/
inductive Kn (H : Hp) : V → Prop
  | non : Kn H .non
  | bl (b : Bool) : Kn H (.bl b)
  | int (i : Int) : Kn H (.int i)
  | str (s : PySem.Str) : Kn H (.str s)
  | lst {a : Addr} {xs : List V} : H a = some (.lst xs) → Kn H (.ref a)
  | tup {a : Addr} {xs : List V} : H a = some (.tup xs) → Kn H (.ref a)
theorem Kn.mono {H H' : Hp} {v : V} (s : Same H H') (h : Kn H v) : Kn H' v := by
  cases h with
  | non => exact .non
  | bl b => exact .bl b
  | int i => exact .int i
  | str x => exact .str x
  | lst e => exact .lst (s _ _ e)
  | tup e => exact .tup (s _ _ e)
def isW : V → Bool
  | .int _ => true
  | _ => false
def sp_is_whole (G : G3) : Sp := fun vs H Q _ => ∃ v, vs = [v] ∧ Kn H v ∧ Q (.bl (isW v)) H
def sp_hearers (G : G3) : Sp := fun vs H Q _ => ∃ (n : Nat) (p : List Nat) (v : V), vs = [vn n, v] ∧ n ≤ 1000 ∧ rPath p v H ∧ Fresh rN (hearersM n p) H Q
def sp_longer (G : G3) : Sp := fun vs H Q _ => ∃ (n : Nat) (ps : List (List Nat)) (v : V), vs = [vn n, v] ∧ n ≤ 100 ∧ ps.length ≤ 10000 ∧ rLst G.K rPath ps v H ∧ Fresh rPath (longerM n ps) H Q
def sp_paths_of (G : G3) : Sp := fun vs H Q _ => ∃ (n k : Nat), vs = [vn n, vn k] ∧ 2 ≤ n ∧ n ≤ 10 ∧ 1 ≤ k ∧ k ≤ 3 ∧ Fresh rPath (pathsOf n k) H Q
/-- is_whole: slots 0 value -/
def t_is_whole (G : G3) (E : XK) : TS :=
  (tRet (tAndV (tCB (rIsi G.K) (tCons (tVar 0) (tCons (tC (.ty "int")) tNil))) (tNotV (tCB (rIsi G.K) (tCons (tVar 0) (tCons (tC (.ty "bool")) tNil))))))
/-- hearers: slots 0 hands 1 path 2 hand -/
def t_hearers (G : G3) (E : XK) : TS :=
  (tRet (tLc (iRng1 (tCons (tVar 0) tNil)) (gName 2) (tTest (tOp (rIn G.K true) (tVar 2) (tVar 1))) (tVar 2) [2]))
/-- longer: slots 0 hands 1 paths_before 2 found 3 path 4 hand -/
def t_longer (G : G3) (E : XK) : TS :=
  (tSeq (tAsg (tLst tNil) (gName 2))
  (tSeq (tFor (iList G.K (tVar 1)) (gName 3) (tFor (iList G.K (tCall (sp_hearers G) [] E0 (tCons (tVar 0) (tCons (tVar 3) tNil)))) (gName 4) (tIfS (tTest (tOp oLt (tOp oAdd (tCB (oLen G.K) (tCons (tVar 3) tNil)) (tC (.int 1))) (tVar 0))) (tDrop (tBM G.K "list" rAppend (tVar 2) (tCons (tOp (rCatA G.K) (tVar 3) (tTup (tCons (tVar 4) tNil))) tNil))) tNext)))
  (tRet (tVar 2))))
/-- paths_of: slots 0 hands 1 size 2 found 3 turn -/
def t_paths_of (G : G3) (E : XK) : TS :=
  (tSeq (tAsg (tLst (tCons (tTup (tCons (tC (.int 0)) tNil)) tNil)) (gName 2))
  (tSeq (tFor (iRng1 (tCons (tOp oSub (tVar 1) (tC (.int 1))) tNil)) (gName 3) (tAsg (tCall (sp_longer G) [] E0 (tCons (tVar 0) (tCons (tVar 2) tNil))) (gName 2)))
  (tRet (tVar 2))))
section
variable {G : G3} {N : List PySem.Str} {vs : List V} {H : Hp} {Q : VK} {E : XK}
theorem pure_is_whole (hN : N.length = 1) (h : sp_is_whole G vs H Q E) : t_is_whole G E (endsOf Q) (L2.start N vs) H := by
  obtain ⟨v, rfl, hv, q⟩ := h
  rw [start_eq hN]
  got_up
  cases hv with
  | non => refine ⟨_, _, _, _, false, rfl, .ty _, .base .non, kit_ty (by decide +kernel), ?_⟩; exact ⟨_, rfl, iteF q⟩
  | bl b =>
    refine ⟨_, _, _, _, true, rfl, .ty _, .base (.bl b), kit_ty (by decide +kernel), ?_⟩
    got_up
    refine ⟨_, _, _, _, true, rfl, .ty _, .base (.bl b), kit_ty (by decide +kernel), ?_⟩
    got_up
    exact q
  | int i =>
    refine ⟨_, _, _, _, true, rfl, .ty _, .base (.int i), kit_ty (by decide +kernel), ?_⟩
    got_up
    refine ⟨_, _, _, _, false, rfl, .ty _, .base (.int i), kit_ty (by decide +kernel), ?_⟩
    got_up
    exact q
  | str s => refine ⟨_, _, _, _, false, rfl, .ty _, .base (.str s), kit_ty (by decide +kernel), ?_⟩; exact ⟨_, rfl, iteF q⟩
  | lst e => refine ⟨_, _, _, _, false, rfl, .ty _, .base (.lst e), kit_ty (by decide +kernel), ?_⟩; exact ⟨_, rfl, iteF q⟩
  | tup e => refine ⟨_, _, _, _, false, rfl, .ty _, .base (.tup e), kit_ty (by decide +kernel), ?_⟩; exact ⟨_, rfl, iteF q⟩
theorem pure_hearers (hN : N.length = 3) (h : sp_hearers G vs H Q E) : t_hearers G E (endsOf Q) (L2.start N vs) H := by
  obtain ⟨n, p, v, rfl, hn, ⟨a, rfl, ha⟩, q⟩ := h
  rw [start_eq hN]
  got_up
  refine lc_rg (n := n) (S := rN) (by omega) monoT_rN (fun d => decide (d ∉ p)) (fun d => d) ?_ ?_
  · intro d H' hd sm Y N' hY hN'
    got_up
    refine ⟨a, _, rfl, .inr (SqT.of (sm _ _ ha)), rfl, flat_vn p, ?_⟩
    have e1 := inV_vn d p
    by_cases hp : d ∈ p
    · rw [e1, decide_eq_true hp]
      got_up
      exact hN' (decide_eq_false (not_not_intro hp)) _ (Same.refl _)
    · rw [e1, decide_eq_false hp]
      got_up
      exact hY (decide_eq_true hp) _ _ (Same.refl _) rfl
  · intro l ys H' nl sm hl hall
    rw [List.map_id'] at hall
    exact q l ys H' nl sm hl hall
theorem pure_longer (hN : N.length = 5) (h : sp_longer G vs H Q E) : t_longer G E (endsOf Q) (L2.start N vs) H := by
  obtain ⟨n, ps, v, rfl, hn, hps, ⟨a, xs, rfl, ha, hall⟩, q⟩ := h
  rw [start_eq hN]
  got_up
  refine ⟨Nat.zero_le _, fun f nf => ?_⟩
  have s0 : Same H (upd H f (.lst [])) := same_new nf
  got_up
  refine for_rl (R := rPath) (K := G.K) (ds := ps) mono_rPath ha hall (fun pre σ' H' => (∃ v3 v4, σ' = [some (vn n), some (.ref a), some (.ref f), v3, v4]) ∧ Same H H' ∧ ∃ ys, H' f = some (.lst ys) ∧ All2 rPath (longerM n pre) ys H')
    ⟨⟨none, none, rfl⟩, s0, [], upd_same, .nil⟩ (fun _ _ _ p => p.2.1) ?_ ?_
  · rintro pre p post v σ' H1 e ⟨⟨v3, v4, rfl⟩, s1, ys, hf, hys⟩ hp
    have hle : (longerM n pre).length ≤ 10000 * 100 := by
      refine Nat.le_trans (flatMap_len (m := n) (fun p => ?_) pre) (Nat.mul_le_mul ?_ hn)
      · split
        · rw [List.length_map]; exact hearersM_len n p
        · exact Nat.zero_le _
      · have := congrArg List.length e
        rw [List.length_append] at this
        omega
    obtain ⟨b, rfl, hb⟩ := hp
    got_up
    refine ⟨n, p, _, rfl, by omega, ⟨b, rfl, hb⟩, fun l hs H2 nl s2 hl hh => ?_⟩
    have hlf : l ≠ f := fun z => by rw [z, hf] at nl; cases nl
    got_up
    refine for_rl (R := rN) (K := G.K) (ds := hearersM n p) (H0 := off f H2) mono_rN (SqL.of (by rw [off_ne hlf]; exact hl)) (by exact All2.mono (R := rN) (fun _ _ _ _ _ h => h) (Same.refl _) hh) (fun pre2 σ' H' => (∃ v4, σ' = [some (vn n), some (.ref a), some (.ref f), some (.ref b), v4]) ∧ Same (off f H2) H' ∧ ∃ zs, H' f = some (.lst zs) ∧ All2 rPath (longerM n pre ++ if p.length + 1 < n then pre2.map fun h => p ++ [h] else []) zs H')
      ⟨⟨_, rfl⟩, off_same, ys, s2 _ _ hf, by split <;> simpa using All2.mono mono_rPath s2 hys⟩ (fun _ _ _ p => p.2.1) ?_ ?_
    · rintro pre2 h post2 v σ' H3 e2 ⟨⟨v4, rfl⟩, s3, zs, hz, hzs⟩ rfl
      have hb3 : H3 b = some (.tup (p.map vn)) := s3 _ _ (by rw [off_ne (ne_of hb hf (by simp))]; exact s2 _ _ hb)
      got_up
      refine ⟨b, _, rfl, .inr (SqT.of hb3), ?_⟩
      got_up
      refine ite2 (fun c => ?_) (fun c => ?_)
      · have c' : p.length + 1 < n := by
          have c2 : ((p.map vn).length : Int) + 1 < (n : Int) := of_decide_eq_true c
          rw [List.length_map] at c2
          omega
        rw [if_pos c'] at hzs
        got_up
        refine ⟨.inl ⟨rfl, _, SqL.of hz⟩, ?_⟩
        got_up
        refine ⟨by show 1 ≤ sizeLine; decide, fun t nt => ?_⟩
        have s4 : Same H3 (upd H3 t (.tup [vn h])) := same_new nt
        have hzl : zs.length < sizeLine := by
          rw [← hzs.len, List.length_append, List.length_map]
          have : pre2.length ≤ n := by
            have := congrArg List.length e2
            rw [List.length_append] at this
            have := hearersM_len n p
            omega
          exact Nat.lt_of_le_of_lt (show _ ≤ 1000100 by omega) (by decide)
        have fin : ∀ (u : Addr) (H4 : Hp), Same H3 H4 → H4 u = some (.tup ((p ++ [h]).map vn)) → rAppend (.ref f) [.ref u] H4 fun _ H' => (∃ v4, [some (vn n), some (V.ref a), some (.ref f), some (.ref b), some (vn h)] = [some (vn n), some (.ref a), some (.ref f), some (.ref b), v4]) ∧ Same (off f H2) H' ∧ ∃ zs, H' f = some (.lst zs) ∧ All2 rPath (longerM n pre ++ if p.length + 1 < n then (pre2 ++ [h]).map fun h => p ++ [h] else []) zs H' := by
          intro u H4 s5 hu
          refine ⟨f, zs, _, rfl, rfl, s5 _ _ hz, hzl, ⟨_, rfl⟩, fun b' o e => ?_, zs ++ [.ref u], upd_same, ?_⟩
          · by_cases hbf : b' = f
            · subst hbf
              rw [show off b' H2 b' = none by unfold off; rw [if_pos rfl]] at e
              cases e
            · rw [upd_ne hbf]; exact s5 _ _ (s3 _ _ e)
          · have hfree : ∀ (b' : Addr) (xs : List V), H4 b' = some (.tup xs) → (upd H4 f (.lst (zs ++ [.ref u]))) b' = some (.tup xs) := fun b' xs e => by
              rw [upd_ne (ne_of e (s5 _ _ hz) (by simp))]; exact e
            rw [if_pos c', List.map_append, ← List.append_assoc]
            refine All2.snoc ?_ ⟨u, rfl, hfree _ _ hu⟩
            exact Paired.mapP (All2.mono mono_rPath s5 hzs) fun d v r => monoT_rPath d v _ _ hfree r
        refine ⟨b, t, _, _, rfl, rfl, SqT.of (s4 _ _ hb3), SqT.of upd_same, ?_, fun z => ?_, ?_, ?_⟩
        · have : p.length + 1 ≤ 1000 := by omega
          rw [List.length_map]
          exact line8 (by show p.length + 1 ≤ 100000; omega)
        · have hp0 : p = [] := List.map_eq_nil_iff.mp z
          refine fin t _ s4 ?_
          rw [hp0]
          exact upd_same
        · intro _ z; cases z
        · intro _ _ u nu
          refine fin u _ (s4.trans (same_new nu)) ?_
          rw [upd_same, List.map_append]
          rfl
      · have c' : ¬ p.length + 1 < n := fun z => c (decide_eq_true (by
          show ((p.map vn).length : Int) + 1 < (n : Int)
          rw [List.length_map]
          omega))
        rw [if_neg c'] at hzs
        refine ⟨⟨_, rfl⟩, s3, zs, hz, ?_⟩
        rw [if_neg c']
        exact hzs
    · rintro σ' H3 ⟨⟨v4, rfl⟩, s3, zs, hz, hzs⟩
      refine ⟨⟨_, _, rfl⟩, fun b' o e => ?_, zs, hz, ?_⟩
      · exact s3 _ _ (by rw [off_ne (ne_of_none e nf)]; exact s2 _ _ (s1 _ _ e))
      · have e3 : longerM n (pre ++ [p]) = longerM n pre ++ if p.length + 1 < n then (hearersM n p).map fun h => p ++ [h] else [] := by
          unfold longerM
          rw [List.flatMap_append]
          simp
        rw [e3]
        exact hzs
  · rintro σ' H1 ⟨⟨v3, v4, rfl⟩, s1, ys, hf, hys⟩
    got_up
    exact q f ys H1 nf s1 hf hys
theorem pure_paths_of (hN : N.length = 4) (h : sp_paths_of G vs H Q E) : t_paths_of G E (endsOf Q) (L2.start N vs) H := by
  obtain ⟨n, k, rfl, hn2, hn, hk1, hk, q⟩ := h
  rw [start_eq hN]
  got_up
  refine ⟨by decide, fun t nt => ?_⟩
  refine ⟨by show 1 ≤ sizeLine; decide, fun f nf => ?_⟩
  have ht : H t = none := nt
  have sf : Same H (upd (upd H t (.tup [.int 0])) f (.lst [.ref t])) := (same_new nt).trans (same_new nf)
  have nfH : H f = none := (same_new nt).free nf
  have htf : t ≠ f := fun z => by rw [z, upd_same] at nf; cases nf
  got_up
  refine for_rg (n := _) ⟨by omega, by omega⟩ (fun i σ' H' => (∃ v3 l, σ' = [some (vn n), some (vn k), some (.ref l), v3] ∧ H l = none ∧ ∃ ys, H' l = some (.lst ys) ∧ All2 rPath (pathsOf n (i + 1)) ys H') ∧ Same H H')
    ⟨⟨none, f, rfl, nfH, _, upd_same, ?_⟩, sf⟩ ?_ ?_
  · have e : pathsOf n (0 + 1) = [[0]] := by
      unfold pathsOf
      rw [if_pos (by omega)]
      rfl
    rw [e]
    exact .cons ⟨t, rfl, by rw [upd_ne htf]; exact upd_same⟩ .nil
  · rintro i σ' H1 hi ⟨⟨v3, l, rfl, nl, ys, hl, hys⟩, s1⟩
    got_up
    refine ⟨n, pathsOf n (i + 1), .ref l, rfl, by omega, Nat.le_trans (pathsOf_count hn (by omega)) (by decide), ⟨l, ys, rfl, SqL.of hl, hys⟩, fun l2 ys2 H2 nl2 s2 hl2 hys2 => ?_⟩
    refine ⟨⟨_, l2, rfl, s1.free nl2, ys2, hl2, ?_⟩, s1.trans s2⟩
    rw [longerM_of (by omega)] at hys2
    exact hys2
  · rintro σ' H1 ⟨⟨v3, l, rfl, nl, ys, hl, hys⟩, s1⟩
    got_up
    have e : ((k : Int) - 1).toNat + 1 = k := by omega
    rw [e] at hys
    exact q l ys H1 nl s1 hl hys
end
end LT

set_option Elab.async false
set_option linter.all false
set_option maxRecDepth 100000
set_option maxHeartbeats 4000000
/-! LTf: exceptions caught, asked for their class; facts of the head beside the kit's own. -/
namespace LT
open PySem PySem.Spec PyProof.Rows L2
def tTry (tb : WX → TS) (w : Ends → WX) : TS := fun D σ H => tb (w D) D σ H
/-- what a call in a try's body wishes of what it lets out: the try's wish, whatever the n slots hold -/
abbrev EW (n : Nat) (W : WX) : XK := fun cls d H => ∀ σ : L2.St, σ.length = n → W cls d σ H
theorem passes_len {X : Cx} {W : WX} {n : Nat} (tk : Takes X W) (hn : X.N.length = n := by rfl) : Passes (L2.CX X.prog X.w) X (EW n W) :=
  fun _ σ _ _ e s' I c => tk e s' (XE.of_call I (fun cls d H' h => h σ (I.len.trans hn)) c)
/-- isinstance(e, c), e the exception in hand -/
def rIsEg (K : PySem.W.Frag) (cls : Value) (d : Option Addr) (a : Addr) : List V → Hp → VK → Prop := fun xs H Q => ∃ (D : Addr) (c : V) (cv : Value) (b : Bool), cls = .ref D ∧ d = none ∧ ExcC K D ∧ xs = [.ref a, c] ∧ ClsV c cv ∧ PySem.W.kitOne K (.ref D) cv = some b ∧ Q (.bl b) H
/-- isinstance(e, (c, ..)) -/
def rIsETg (K : PySem.W.Frag) (cls : Value) (d : Option Addr) (a : Addr) : List V → Hp → VK → Prop := fun xs H Q => ∃ (D tp : Addr) (cs : List V) (us : List Value) (b : Bool), cls = .ref D ∧ d = none ∧ ExcC K D ∧ xs = [.ref a, .ref tp] ∧ H tp = some (.tup cs) ∧ Paired ClsV cs us ∧ PySem.W.kitAny K (.ref D) us = some b ∧ Q (.bl b) H
section
variable {X : Cx} {a : Addr} {cls : Value} {d : Option Addr} {oe : Obj} {pn : List (Addr × Obj)}
theorem inst_at {pins : List (Addr × Obj)} {σ : L2.St} {H : Hp} {s : Shared} {D : Addr} (I : L2.Inv (X.suite a ((a, oe) :: pn)) pins σ H s) (hz : Zc (.ref D) none oe) (hf : ∃ vs, oe.data = .fields vs) : PySem.W.InstAt s.heap a oe D none := by
  obtain ⟨hget, _⟩ := I.pin (a, oe) (List.mem_append.mpr (.inl List.mem_cons_self))
  obtain ⟨vs, hv⟩ := hf
  obtain ⟨oc, od, oda, osl⟩ := oe
  obtain ⟨h1, h2⟩ := hz
  dsimp only at h1 h2 hv
  subst h1 h2 hv
  exact ⟨hget, rfl, rfl, trivial⟩
theorem call_isEg (hz : Zc cls d oe) (hf : ∃ vs, oe.data = .fields vs) : CallR (X.suite a ((a, oe) :: pn)) (.builtin "isinstance") (rIsEg X.K cls d a) := by
  intro pins s σ H xs us Q I r h
  obtain ⟨D, c, cv, b, rfl, rfl, C, rfl, hcv, e, q⟩ := h
  obtain ⟨u1, u2, rfl, r1, r2⟩ := vals2 r
  cases (show u1 = Value.ref a from r1)
  have e2 := hcv.eq r2
  subst e2
  exact PySem.W.kia_one (PySem.W.handS_kitx_exc C.hg C.hk C.hs C.hd C.ha C.hn C.ht C.hm) I.kIn (inst_at I hz hf) e (fun z => nomatch z) fun tk => ⟨.bl b, H, I.kept (t' := tk) fun _ _ z => z, rfl, q⟩
theorem call_isETg (hz : Zc cls d oe) (hf : ∃ vs, oe.data = .fields vs) : CallR (X.suite a ((a, oe) :: pn)) (.builtin "isinstance") (rIsETg X.K cls d a) := by
  intro pins s σ H xs us Q I r h
  obtain ⟨D, tp, cs, ws, b, rfl, rfl, C, rfl, hT, k, e, q⟩ := h
  obtain ⟨u1, u2, rfl, r1, r2⟩ := vals2 r
  cases (show u1 = Value.ref a from r1)
  cases (show u2 = Value.ref tp from r2)
  obtain ⟨_, its, rv, o, h1, h2, n, h3⟩ := (show ObjOk X.prog X.w H s.heap tp (.tup cs) from I.hok tp _ hT)
  have e3 := ClsV.all k rv
  subst e3
  obtain ⟨oc, od, dt, sl⟩ := o
  simp only at h2 h3
  subst h2 h3
  exact PySem.W.kia_tup (PySem.W.handS_kitx_exc C.hg C.hk C.hs C.hd C.ha C.hn C.ht C.hm) I.kIn (inst_at I hz hf) h1 e (fun z => nomatch z) fun tk => ⟨.bl b, H, I.kept (t' := tk) fun _ _ z => z, rfl, q⟩
end
/-! ### the exception classes, as the top has made them -/
def excNames : List PySem.Str := ["NoTable", "NoSign", "NoHand", "NoSaying", "Over", "NotOver"]
def oneExc (K : PySem.W.Frag) (D : Addr) : Bool :=
  decide (PySem.W.findIn K (.ref D) "__getattribute__" = some (some (.builtin "BaseException.__getattribute__"))) && (decide (PySem.W.findIn K (.ref D) "__getattr__" = some none) && (decide (PySem.W.subIn K (.ref D) (.type "BaseException") = some true) && (PySem.W.hasDictIn K D && (decide (PySem.W.findIn K (.ref D) "__class__" = some (some (.builtin "object.__class__"))) &&
  (decide (PySem.W.specialIn K (.builtin "object.__class__") "__get__" = some (some (.builtin "getset_descriptor.__get__"))) && (decide (PySem.W.takesIn K (.builtin "object.__class__") = some true) && decide (PySem.W.mroIn K D (.type "object") = some true)))))))
theorem oneExc_ok {K : PySem.W.Frag} {D : Addr} (h : oneExc K D = true) : ExcC K D := by
  unfold oneExc at h
  simp only [Bool.and_eq_true, decide_eq_true_eq] at h
  obtain ⟨h1, h2, h3, h4, h5, h6, h7, h8⟩ := h
  exact ⟨h1, h2, h3, h4, h5, h6, h7, h8⟩
def excB (K : PySem.W.Frag) : Bool := excNames.all fun x => oneExc K (He.ga K x) && (decide (PySem.W.exmOne K (.ref (He.ga K x)) (.ref (He.ga K "TableError")) = some true) && (decide (PySem.W.kitOne K (.ref (He.ga K x)) (.type "ValueError") = some true) &&
  excNames.all fun y => decide (PySem.W.kitOne K (.ref (He.ga K x)) (.ref (He.ga K y)) = some (decide (x = y)))))
structure ExcT (K : PySem.W.Frag) (x : PySem.Str) : Prop where
  c : ExcC K (He.ga K x)
  te : PySem.W.exmOne K (.ref (He.ga K x)) (.ref (He.ga K "TableError")) = some true
  ve : PySem.W.kitOne K (.ref (He.ga K x)) (.type "ValueError") = some true
  is : ∀ y ∈ excNames, PySem.W.kitOne K (.ref (He.ga K x)) (.ref (He.ga K y)) = some (decide (x = y))
theorem excB_ok {K : PySem.W.Frag} (h : excB K = true) {x : PySem.Str} (hx : x ∈ excNames) : ExcT K x := by
  have h1 := List.all_eq_true.mp h x hx
  simp only [Bool.and_eq_true, decide_eq_true_eq] at h1
  obtain ⟨a, b, c, d⟩ := h1
  exact ⟨oneExc_ok a, b, c, fun y hy => of_decide_eq_true (List.all_eq_true.mp d y hy)⟩
/-! ### a hook that reads one more test of the head -/
def obsX (fa : List He.Fa) (fn : List He.DefD) (ex : PySem.W.Frag → Bool) (K : PySem.W.Frag) : Bool × He.AlD := (ex K, He.obsD fa fn K)
def obsXG (n : Nat) (fa : List He.Fa) (fn : List He.DefD) (ex : PySem.W.Frag → Bool) (g : Addr → Option Obj) : Bool × He.AlD := obsX fa fn ex (He.frG g (He.asD g n))
def hookX (n : Nat) (fa : List He.Fa) (fn : List He.DefD) (ex : PySem.W.Frag → Bool) : PySem.W.Hook where
  α := Bool × He.AlD
  obs := fun s => obsXG n fa fn ex s.heap.get?
  val := fun _ => (true, He.valD fn)
  says := fun _ h => ∃ K : PySem.W.Frag, K.In h ∧ He.SaysD fa fn K ∧ ex K = true
  of := fun _ _ e => ⟨_, He.frG_in, congrArg Prod.snd e, congrArg Prod.fst e⟩
  keeps := fun _ _ _ ⟨K, hK, c⟩ k => ⟨K, PySem.W.Frag.In.keeps hK k, c⟩
theorem obsXG_eq {n : Nat} {fa : List He.Fa} {fn : List He.DefD} {ex : PySem.W.Frag → Bool} {g : Addr → Option Obj} {s : Shared} (h : ∀ a, g a = s.heap.get? a) : obsXG n fa fn ex g = (hookX n fa fn ex).obs s := by
  have e : g = s.heap.get? := funext h
  rw [e] <;> rfl
end LT

set_option Elab.async false
set_option linter.all false
set_option maxRecDepth 100000
set_option maxHeartbeats 4000000
namespace LT
open PySem PySem.Spec PyProof.Rows L2
local macro_rules | `(tactic| got_up) => `(tactic| repeat (first
  | refine ⟨_, rfl, ?_⟩
  | refine ⟨_, _, rfl, rfl, ?_⟩
  | refine ⟨rfl, ?_⟩
  | refine ⟨_, _, rfl, ?_⟩
  | refine ⟨(.inl ⟨by decide, by decide⟩ : CMul _ _), ?_⟩
  | refine ⟨(by show (0 : Int) < _; first | decide | omega), ?_⟩
  | refine ⟨(⟨by first | decide | omega, by first | decide | omega⟩ : CDiv _ _), ?_⟩))
/-! LTg: tables' numbers, all paths, twice. -/
/-- numbers that a table has -/
def TabOk (h m : V) : Prop := ∃ i j : Nat, h = vn i ∧ m = vn j ∧ 2 ≤ i ∧ i ≤ 10 ∧ j ≤ 2
def sp_need_table (G : G3) : Sp := fun vs H Q E => ∃ h m, vs = [h, m] ∧ Kn H h ∧ Kn H m ∧ (TabOk h m → Q .non H) ∧ (¬ TabOk h m → E (.ref (He.ga G.K "NoTable")) none H)
def sp_paths (G : G3) : Sp := fun vs H Q E => ∃ h m, vs = [h, m] ∧ Kn H h ∧ Kn H m ∧ (∀ i j : Nat, h = vn i → m = vn j → 2 ≤ i → i ≤ 10 → j ≤ 2 → Fresh rPath (pathsM i j) H Q) ∧ (¬ TabOk h m → E (.ref (He.ga G.K "NoTable")) none H)
def sp_l_table (G : G3) : Sp := fun vs H Q _ => ∃ c : Int, vs = [.int c] ∧ ∀ (n m : Nat) (a : Addr) (H' : Hp), 2 ≤ n → m ≤ 2 → n ≤ 10 → (m = 2 → n ≤ 8) → Same H H' → H' a = some (.tup [vn n, vn m]) → Q (.ref a) H'
def sp_l_paths (G : G3) : Sp := fun vs H Q _ => ∃ (n k : Nat), vs = [vn n, vn k] ∧ 2 ≤ n ∧ n ≤ 10 ∧ 1 ≤ k ∧ k ≤ 3 ∧ Fresh rPath (pathsOf n k) H Q
/-- need_table: slots 0 hands 1 most -/
def t_need_table (G : G3) (E : XK) : TS :=
  (tSeq (tIfS (tOr (tNot (tB (tCall (sp_is_whole G) [] E0 (tCons (tVar 0) tNil)))) (tOr (tTest (tOp oLt (tVar 0) (tC (.int 2)))) (tTest (tOp oGt (tVar 0) (tC (.int 10)))))) (tRaise (He.ga G.K "NoTable") E) tNext)
  (tIfS (tOr (tNot (tB (tCall (sp_is_whole G) [] E0 (tCons (tVar 1) tNil)))) (tOr (tTest (tOp oLt (tVar 1) (tC (.int 0)))) (tTest (tOp oGt (tVar 1) (tC (.int 2)))))) (tRaise (He.ga G.K "NoTable") E) tNext))
/-- paths: slots 0 hands 1 most 2 found 3 size -/
def t_paths (G : G3) (E : XK) : TS :=
  (tSeq (tDrop (tCall (sp_need_table G) [] E (tCons (tVar 0) (tCons (tVar 1) tNil))))
  (tSeq (tAsg (tLst tNil) (gName 2))
  (tSeq (tFor (iRng2 (tCons (tC (.int 1)) (tCons (tOp oAdd (tVar 1) (tC (.int 2))) tNil))) (gName 3) (tAsg (tOp rCat (tVar 2) (tCall (sp_paths_of G) [] E0 (tCons (tVar 0) (tCons (tVar 3) tNil)))) (gName 2)))
  (tRet (tVar 2)))))
/-- _law_table: slots 0 _law_cell 1 _law_most -/
def t_l_table (G : G3) (E : XK) : TS :=
  (tSeq (tAsg (tOp (rIxL G.K) (tLst (tCons (tC (.int 1)) (tCons (tC (.int 2)) (tCons (tC (.int 0)) (tCons (tC (.int 1)) (tCons (tC (.int 2)) (tCons (tC (.int 2)) tNil))))))) (tOp oMod (tVar 0) (tC (.int 6)))) (gName 1))
  (tRet (tTup (tCons (tOp oAdd (tC (.int 2)) (tOp oMod (tOp oDiv (tVar 0) (tC (.int 6))) (tOp (rIxL G.K) (tLst (tCons (tC (.int 9)) (tCons (tC (.int 9)) (tCons (tC (.int 7)) tNil)))) (tVar 1)))) (tCons (tVar 1) tNil)))))
/-- _law_paths: slots 0 _law_hands 1 _law_size 2 _law_found 3 _law_turn 4 _law_hand 5 _law_path -/
def t_l_paths (G : G3) (E : XK) : TS :=
  (tSeq (tAsg (tLst (tCons (tTup (tCons (tC (.int 0)) tNil)) tNil)) (gName 2))
  (tSeq (tFor (iRng1 (tCons (tOp oSub (tCB oMin2 (tCons (tVar 1) (tCons (tOp oSub (tVar 0) (tC (.int 1))) tNil))) (tC (.int 1))) tNil)) (gName 3) (tAsg (tCB (oSumL G.K) (tCons (tLc (iList G.K (tVar 2)) (gName 5) tYes (tLc (iRng1 (tCons (tVar 0) tNil)) (gName 4) (tTest (tOp (rIn G.K true) (tVar 4) (tVar 5))) (tOp (rCatA G.K) (tVar 5) (tTup (tCons (tVar 4) tNil))) [4]) [5]) (tCons (tLst tNil) tNil))) (gName 2)))
  (tRet (tLc (iList G.K (tVar 2)) (gName 5) (tTest (tOp rEq (tCB (oLen G.K) (tCons (tVar 5) tNil)) (tVar 1))) (tVar 5) [5]))))
theorem isW_int {v : V} (h : isW v = true) : ∃ i, v = .int i := by
  cases v with
  | int i => exact ⟨i, rfl⟩
  | _ => cases h
section
variable {G : G3} {N : List PySem.Str} {vs : List V} {H : Hp} {Q : VK} {E : XK}
theorem pure_need_table (hN : N.length = 2) (h : sp_need_table G vs H Q E) : t_need_table G E (endsOf Q) (L2.start N vs) H := by
  obtain ⟨h, m, rfl, kh, km, q, e⟩ := h
  rw [start_eq hN]
  got_up
  refine ⟨kh, ?_⟩
  by_cases hw : isW h = true
  · obtain ⟨i, rfl⟩ := isW_int hw
    got_up
    refine ite2 (fun c1 => ?_) (fun c1 => ?_)
    · got_up
      exact e fun ⟨i', j', h1, _, h2, _, _⟩ => by
        have h3 : i = (i' : Int) := V.int.inj h1
        have := of_decide_eq_true c1
        omega
    · got_up
      refine ite2 (fun c2 => ?_) (fun c2 => ?_)
      · got_up
        exact e fun ⟨i', j', h1, _, h2, h3, _⟩ => by
          have h4 : i = (i' : Int) := V.int.inj h1
          have := of_decide_eq_true c2
          omega
      · have hi1 : ¬ i < 2 := fun z => c1 (decide_eq_true z)
        have hi2 : ¬ 10 < i := fun z => c2 (decide_eq_true z)
        got_up
        refine ⟨km, ?_⟩
        by_cases hw2 : isW m = true
        · obtain ⟨j, rfl⟩ := isW_int hw2
          got_up
          refine ite2 (fun c3 => ?_) (fun c3 => ?_)
          · got_up
            exact e fun ⟨i', j', _, h1, _, _, _⟩ => by
              have h4 : j = (j' : Int) := V.int.inj h1
              have := of_decide_eq_true c3
              omega
          · got_up
            refine ite2 (fun c4 => ?_) (fun c4 => ?_)
            · got_up
              exact e fun ⟨i', j', _, h1, _, _, h2⟩ => by
                have h4 : j = (j' : Int) := V.int.inj h1
                have := of_decide_eq_true c4
                omega
            · have hj1 : ¬ j < 0 := fun z => c3 (decide_eq_true z)
              have hj2 : ¬ 2 < j := fun z => c4 (decide_eq_true z)
              refine q ⟨i.toNat, j.toNat, ?_, ?_, by omega, by omega, by omega⟩
              · show V.int i = V.int (i.toNat : Int)
                congr 1
                omega
              · show V.int j = V.int (j.toNat : Int)
                congr 1
                omega
        · have hf : isW m = false := by simpa using hw2
          rw [hf]
          got_up
          exact e fun ⟨i', j', _, h1, _, _, _⟩ => by rw [h1] at hf; cases hf
  · have hf : isW h = false := by simpa using hw
    rw [hf]
    got_up
    exact e fun ⟨i', j', h1, _, _, _, _⟩ => by rw [h1] at hf; cases hf
theorem pure_paths (hN : N.length = 4) (h : sp_paths G vs H Q E) : t_paths G E (endsOf Q) (L2.start N vs) H := by
  obtain ⟨h, m, rfl, kh, km, q, e⟩ := h
  rw [start_eq hN]
  got_up
  refine ⟨kh, km, ?_, e⟩
  rintro ⟨i, j, rfl, rfl, h1, h2, h3⟩
  have q := q i j rfl rfl h1 h2 h3
  got_up
  refine ⟨Nat.zero_le _, fun f nf => ?_⟩
  got_up
  refine for_rg2 (lo := 1) (m := j + 1) (by omega) ⟨by omega, by omega⟩ (fun k σ' H' => (∃ v3 l, σ' = [some (vn i), some (vn j), some (.ref l), v3] ∧ H l = none ∧ ∃ ys, H' l = some (.lst ys) ∧ All2 rPath ((List.range k).flatMap fun k => pathsOf i (k + 1)) ys H') ∧ Same H H')
    ⟨⟨none, f, rfl, nf, _, upd_same, .nil⟩, same_new nf⟩ ?_ ?_
  · rintro k σ' H1 hk ⟨⟨v3, l, rfl, nl, ys, hl, hys⟩, s1⟩
    got_up
    refine ⟨h1, h2, by omega, by omega, fun l2 ys2 H2 nl2 s2 hl2 hys2 => ?_⟩
    have hlen1 : ys.length ≤ 3 * 100 := by
      rw [← hys.len]
      refine Nat.le_trans (Nat.le_trans (?_ : _ ≤ (List.range k).length * 100) (Nat.mul_le_mul_right 100 (by rw [List.length_range]; omega))) (Nat.le_refl _)
      have : ∀ l : List Nat, (∀ x ∈ l, x ≤ 2) → (l.flatMap fun k => pathsOf i (k + 1)).length ≤ l.length * 100 := by
        intro l
        induction l with
        | nil => intro _; simp
        | cons x l ih =>
          intro hx
          rw [List.flatMap_cons, List.length_append, List.length_cons, Nat.succ_mul, Nat.add_comm]
          exact Nat.add_le_add (ih fun y hy => hx y (by simp [hy])) (pathsOf_count h2 (by have := hx x (by simp); omega))
      exact this _ fun x hx => by have := List.mem_range.mp hx; omega
    have hlen2 : ys2.length ≤ 100 := by
      rw [← hys2.len]
      exact pathsOf_count h2 (by omega)
    refine ⟨l, l2, _, _, rfl, rfl, s2 _ _ hl, hl2, line8 (by omega), fun p np => ?_⟩
    have s3 : Same H2 (upd H2 p (.lst (ys ++ ys2))) := same_new np
    refine ⟨⟨_, p, rfl, s1.free (s2.free np), _, upd_same, ?_⟩, (s1.trans s2).trans s3⟩
    rw [List.range_succ, List.flatMap_append, List.flatMap_singleton]
    have e1 : 1 + k = k + 1 := by omega
    rw [e1] at hys2
    exact All2.mono mono_rPath s3 (All2.append (All2.mono mono_rPath s2 hys) hys2)
  · rintro σ' H1 ⟨⟨v3, l, rfl, nl, ys, hl, hys⟩, s1⟩
    got_up
    exact q l ys H1 nl s1 hl hys
theorem pure_l_table (hN : N.length = 2) (h : sp_l_table G vs H Q E) : t_l_table G E (endsOf Q) (L2.start N vs) H := by
  obtain ⟨c, rfl, q⟩ := h
  rw [start_eq hN]
  got_up
  refine ⟨by show 6 ≤ sizeLine; decide, fun p np => ?_⟩
  got_up
  have hz1 : 0 ≤ c % 6 := Int.emod_nonneg _ (by decide)
  have hz2 : c % 6 < 6 := Int.emod_lt_of_pos _ (by decide)
  obtain ⟨m, hm, hm2⟩ : ∃ m : Nat, atI [V.int 1, .int 2, .int 0, .int 1, .int 2, .int 2] (c % 6) = some (vn m) ∧ m ≤ 2 := by
    obtain ⟨k, hk⟩ := Int.eq_ofNat_of_zero_le hz1
    rw [hk] at hz2 ⊢
    have : k < 6 := by omega
    match k, this with
    | 0, _ => exact ⟨1, rfl, by decide⟩
    | 1, _ => exact ⟨2, rfl, by decide⟩
    | 2, _ => exact ⟨0, rfl, by decide⟩
    | 3, _ => exact ⟨1, rfl, by decide⟩
    | 4, _ => exact ⟨2, rfl, by decide⟩
    | 5, _ => exact ⟨2, rfl, by decide⟩
  refine ⟨p, _, _, _, rfl, rfl, SqL.of upd_same, hm, ?_⟩
  got_up
  refine ⟨by show 3 ≤ sizeLine; decide, fun p2 np2 => ?_⟩
  got_up
  obtain ⟨d, hd, hd1, hd2, hd3⟩ : ∃ d : Int, atI [V.int 9, .int 9, .int 7] (m : Int) = some (.int d) ∧ 0 < d ∧ d ≤ 9 ∧ (m = 2 → d = 7) := by
    match m, hm2 with
    | 0, _ => exact ⟨9, rfl, by decide, by decide, by decide⟩
    | 1, _ => exact ⟨9, rfl, by decide, by decide, by decide⟩
    | 2, _ => exact ⟨7, rfl, by decide, by decide, by decide⟩
  refine ⟨p2, _, _, _, rfl, rfl, SqL.of upd_same, hd, ?_⟩
  got_up
  refine ⟨by show 2 ≤ sizeLine; decide, fun a na => ?_⟩
  have hz3 : 0 ≤ c / 6 % d := Int.emod_nonneg _ (by omega)
  have hz4 : c / 6 % d < d := Int.emod_lt_of_pos _ hd1
  refine q (2 + (c / 6 % d)).toNat m a _ (by omega) hm2 (by omega) (fun e => by have := hd3 e; omega) (((same_new np).trans (same_new np2)).trans (same_new na)) ?_
  rw [upd_same]
  have e1 : vn (2 + (c / 6 % d)).toNat = V.int (2 + c / 6 % d) := by
    show V.int (((2 + (c / 6 % d)).toNat : Nat) : Int) = _
    congr 1
    omega
  rw [e1]
theorem filter_tt {α : Type} (l : List α) : l.filter (fun _ => true) = l := List.filter_eq_self.mpr fun _ _ => rfl
/-- the path 0, 1, .. i -/
theorem range_mem {n : Nat} : ∀ {i : Nat}, i < n → List.range (i + 1) ∈ itM n i
  | 0, _ => List.mem_singleton.mpr rfl
  | i + 1, h => by
    refine List.mem_flatMap.mpr ⟨List.range (i + 1), range_mem (by omega), List.mem_map.mpr ⟨i + 1, mem_hearersM.mpr ⟨h, by simp⟩, ?_⟩⟩
    rw [List.range_succ (n := i + 1)]
/-- a list of paths made in a comprehension's turn -/
def rPs : List (List Nat) → V → Hp → Prop := fun ps v H => ∃ l ys, v = .ref l ∧ H l = some (.lst ys) ∧ All2 rPath ps ys H
theorem mono_rPs : Mono rPs := fun _ _ _ _ s ⟨l, ys, e, h, r⟩ => ⟨l, ys, e, s _ _ h, All2.mono mono_rPath s r⟩
theorem rPs_split {H : Hp} : ∀ {pss : List (List (List Nat))} {ys : List V}, All2 rPs pss ys H → ∃ (ls : List Addr) (xss : List (List V)), ys = ls.map V.ref ∧ Paired (fun l xs => H l = some (.lst xs)) ls xss ∧ All2 rPath pss.flatten xss.flatten H
  | _, _, .nil => ⟨[], [], rfl, .nil, .nil⟩
  | _ :: _, _ :: _, .cons ⟨l, zs, e, h, r⟩ t => by
    obtain ⟨ls, xss, e2, h2, r2⟩ := rPs_split t
    exact ⟨l :: ls, zs :: xss, by rw [e, e2]; rfl, .cons h h2, All2.append r r2⟩
theorem pure_l_paths (hN : N.length = 6) (h : sp_l_paths G vs H Q E) : t_l_paths G E (endsOf Q) (L2.start N vs) H := by
  obtain ⟨n, k, rfl, hn2, hn, hk1, hk, q⟩ := h
  rw [start_eq hN]
  got_up
  refine ⟨by decide, fun t nt => ?_⟩
  refine ⟨by show 1 ≤ sizeLine; decide, fun f nf => ?_⟩
  have sf : Same H (upd (upd H t (.tup [.int 0])) f (.lst [.ref t])) := (same_new nt).trans (same_new nf)
  have nfH : H f = none := (same_new nt).free nf
  have htf : t ≠ f := fun z => by rw [z, upd_same] at nf; cases nf
  got_up
  obtain ⟨j, hj⟩ : ∃ j : Nat, (if (n : Int) - 1 < (k : Int) then (n : Int) - 1 else (k : Int)) = (j : Int) + 1 ∧ j + 1 = min k (n - 1) := by
    refine ⟨min k (n - 1) - 1, ?_⟩
    split <;> omega
  obtain ⟨hj, hj2⟩ := hj
  rw [hj]
  refine for_rg (n := _) ⟨by omega, by omega⟩ (fun i σ' H' => (∃ v3 l, σ' = [some (vn n), some (vn k), some (.ref l), v3, none, none] ∧ ∃ ys, H' l = some (.lst ys) ∧ All2 rPath (itM n i) ys H') ∧ Same H H')
    ⟨⟨none, f, rfl, _, upd_same, .cons ⟨t, rfl, by rw [upd_ne htf]; exact upd_same⟩ .nil⟩, sf⟩ ?_ ?_
  · rintro i σ' H1 hi ⟨⟨v3, l, rfl, ys, hl, hys⟩, s1⟩
    have hcount : (itM n i).length ≤ 100 := by
      refine Nat.le_trans (itM_count i) (Nat.le_trans (Nat.pow_le_pow_left hn i) ?_)
      exact Nat.pow_le_pow_right (by decide) (show i ≤ 2 by omega)
    got_up
    refine lc_rlS (R := rPath) (S := rPs) (ds := itM n i) mono_rPath (SqL.of hl) hys mono_rPs (fun _ => true) (fun p => (hearersM n p).map fun h => p ++ [h]) (by omega) ?_ ?_
    · rintro D p v H2 nD hp s2 ⟨zs, hz⟩ ⟨b, rfl, hb⟩ Y N' hY hN'
      got_up
      have hpl : p.length ≤ 3 := by rw [itM_len hp]; omega
      refine lc_rg (n := n) (S := rPath) (by omega) monoT_rPath (fun d => decide (d ∉ p)) (fun d => p ++ [d]) ?_ ?_
      · intro d H3 hd s3 Y2 N2 hY2 hN2
        have hb3 := s3 _ _ hb
        got_up
        refine ⟨b, _, rfl, .inr (SqT.of hb3), rfl, flat_vn p, ?_⟩
        have e1 := inV_vn d p
        by_cases hm : d ∈ p
        · rw [e1, decide_eq_true hm]
          got_up
          exact hN2 (decide_eq_false (not_not_intro hm)) _ (Same.refl _)
        · rw [e1, decide_eq_false hm]
          got_up
          refine ⟨by show 1 ≤ sizeLine; decide, fun t nt => ?_⟩
          have s4 : Same H3 (upd H3 t (.tup [vn d])) := same_new nt
          refine ⟨b, t, _, _, rfl, rfl, SqT.of (s4 _ _ hb3), SqT.of upd_same, ?_, fun z => ?_, ?_, ?_⟩
          · rw [List.length_map]
            exact line8 (by show p.length + 1 ≤ 100000; omega)
          · have hp0 : p = [] := List.map_eq_nil_iff.mp z
            refine hY2 (decide_eq_true hm) _ _ s4 ⟨t, rfl, ?_⟩
            rw [hp0]
            exact upd_same
          · intro _ z; cases z
          · intro _ _ u nu
            refine hY2 (decide_eq_true hm) _ _ (s4.trans (same_new nu)) ⟨u, rfl, ?_⟩
            rw [upd_same, List.map_append]
            rfl
      · intro l2 ys2 H3 nl2 s3 hl2 hall2
        have hlD : l2 ≠ D := fun z => by rw [z, hz] at nl2; cases nl2
        refine hY rfl _ _ s3 ⟨l2, ys2, rfl, by rw [off_ne hlD]; exact hl2, ?_⟩
        exact Paired.mapP hall2 fun d v r => monoT_rPath d v _ _ (fun b' xs e => by
          rw [off_ne (ne_of e (s3 _ _ hz) (by simp))]; exact e) r
    · intro l2 ys2 H2 nl2 s2 hl2 hall2
      obtain ⟨ls, xss, rfl, hx, hfl⟩ := rPs_split hall2
      have efl : ((((itM n i).filter fun _ => true).map fun p => (hearersM n p).map fun h => p ++ [h]).flatten) = itM n (i + 1) := by
        rw [filter_tt]
        rfl
      rw [efl] at hfl
      refine ⟨Nat.zero_le _, fun e ne => ?_⟩
      have s3 : Same H2 (upd H2 e (.lst [])) := same_new ne
      got_up
      refine ⟨l2, e, ls, xss, rfl, SqL.of (s3 _ _ hl2), Paired.mapP hx fun a b h => s3 _ _ h, upd_same, ?_, ?_, fun r nr => ?_⟩
      · rw [← hfl.len]
        refine Nat.le_trans (itM_count (i + 1)) (Nat.le_trans (Nat.pow_le_pow_left hn (i + 1)) (Nat.le_trans (Nat.pow_le_pow_right (by decide) (show i + 1 ≤ 3 by omega)) (by decide)))
      · intro z
        subst z
        have := hall2.len
        rw [List.map_nil, List.length_nil, List.length_map, filter_tt] at this
        have h0 := range_mem (n := n) (i := i) (by omega)
        rw [List.length_eq_zero_iff.mp this] at h0
        cases h0
      · have s4 := same_new (o := .lst xss.flatten) nr
        exact ⟨⟨_, r, rfl, _, upd_same, All2.mono mono_rPath (s3.trans s4) hfl⟩, ((s1.trans s2).trans s3).trans s4⟩
  · rintro σ' H1 ⟨⟨v3, l, rfl, ys, hl, hys⟩, s1⟩
    got_up
    have ej : ((j : Int) + 1 - 1).toNat = j := by omega
    rw [ej] at hys
    have hcount : (itM n j).length ≤ 100 := by
      refine Nat.le_trans (itM_count j) (Nat.le_trans (Nat.pow_le_pow_left hn j) ?_)
      exact Nat.pow_le_pow_right (by decide) (show j ≤ 2 by omega)
    refine lc_rl (R := rPath) (S := rPath) (ds := itM n j) mono_rPath (SqL.of hl) hys monoT_rPath (fun p => decide (p.length = k)) (fun p => p) (by omega) ?_ ?_
    · rintro p v H2 hp s2 ⟨b, rfl, hb⟩ Y N' hY hN'
      got_up
      refine ⟨b, _, rfl, .inr (SqT.of hb), ?_⟩
      got_up
      refine ite2 (fun c => ?_) (fun c => ?_)
      · have c' : p.length = k := by
          have h := V.int.inj (of_decide_eq_true c)
          rw [List.length_map] at h
          omega
        got_up
        exact hY (decide_eq_true c') _ _ (Same.refl _) ⟨b, rfl, hb⟩
      · have c' : ¬ p.length = k := fun z => c (decide_eq_true (by rw [List.length_map, z]; rfl))
        exact hN' (decide_eq_false c') _ (Same.refl _)
    · intro l2 ys2 H2 nl2 s2 hl2 hall2
      have e1 : ((itM n j).filter fun p => decide (p.length = k)).map (fun p => p) = pathsOf n k := by
        rw [List.map_id']
        unfold pathsOf
        by_cases hkn : k < n
        · rw [if_pos hkn]
          have : j = k - 1 := by omega
          rw [this]
          refine List.filter_eq_self.mpr fun p hp => decide_eq_true ?_
          rw [itM_len hp]
          omega
        · rw [if_neg hkn]
          refine List.filter_eq_nil_iff.mpr fun p hp => ?_
          rw [itM_len hp]
          simp
          omega
      rw [e1] at hall2
      exact q l2 ys2 H2 (s1.free nl2) (s1.trans s2) hl2 hall2
end
end LT

set_option Elab.async false
set_option linter.all false
set_option maxRecDepth 100000
set_option maxHeartbeats 4000000
/-! LTn: dicts whose keys are tuples, nested. -/
namespace LT
open PySem PySem.Spec PyProof.Rows L2
/-! ### keys -/
mutual
/-- the value v is the key k -/
def kAt (H : Hp) : NestedKey → V → Prop
  | .none, v => v = .non
  | .num i, v => v = .int i
  | .text x, v => v = .str x
  | .tup ks, v => ∃ a vs, v = .ref a ∧ H a = some (.tup vs) ∧ kAts H ks vs
def kAts (H : Hp) : List NestedKey → List V → Prop
  | [], vs => vs = []
  | k :: ks, vs => ∃ v r, vs = v :: r ∧ kAt H k v ∧ kAts H ks r
end
mutual
theorem kAt.mono {H H' : Hp} (s : ∀ b xs, H b = some (.tup xs) → H' b = some (.tup xs)) : ∀ (k : NestedKey) (v : V), kAt H k v → kAt H' k v
  | .none, _, h => by rw [kAt] at h ⊢; exact h
  | .num _, _, h => by rw [kAt] at h ⊢; exact h
  | .text _, _, h => by rw [kAt] at h ⊢; exact h
  | .tup ks, v, h => by
    rw [kAt] at h ⊢
    obtain ⟨a, vs, e, h1, h2⟩ := h
    exact ⟨a, vs, e, s _ _ h1, kAts.mono s ks vs h2⟩
theorem kAts.mono {H H' : Hp} (s : ∀ b xs, H b = some (.tup xs) → H' b = some (.tup xs)) : ∀ (ks : List NestedKey) (vs : List V), kAts H ks vs → kAts H' ks vs
  | [], _, h => by rw [kAts] at h ⊢; exact h
  | k :: ks, vs, h => by
    rw [kAts] at h ⊢
    obtain ⟨v, r, e, h1, h2⟩ := h
    exact ⟨v, r, e, kAt.mono s k v h1, kAts.mono s ks r h2⟩
end
theorem tups_of {H H' : Hp} (s : Same H H') : ∀ b xs, H b = some (.tup xs) → H' b = some (.tup xs) := fun b xs e => s b _ e
section
variable {P : Program} {w : World} {H : Hp} {h : Heap}
mutual
theorem kAt.is (ok : HOk P w H h) : ∀ (k : NestedKey) (v : V) (u : Value), kAt H k v → L2.RelV v u → NestedIs h k u
  | .none, v, u, hk, r => by
    rw [kAt] at hk; subst hk
    cases (show u = Value.none from r)
    exact .none
  | .num i, v, u, hk, r => by
    rw [kAt] at hk; subst hk
    obtain ⟨t, rfl⟩ := (show ∃ t, u = Value.int i t from r)
    exact .int i t
  | .text x, v, u, hk, r => by
    rw [kAt] at hk; subst hk
    obtain ⟨t, rfl⟩ := (show ∃ t, u = Value.str x t from r)
    exact .text x t
  | .tup ks, v, u, hk, r => by
    rw [kAt] at hk
    obtain ⟨a, vs, rfl, h1, h2⟩ := hk
    cases (show u = Value.ref a from r)
    obtain ⟨z, its, rv, o, e, hc, n, hd⟩ := (show ObjOk P w H h a (.tup vs) from ok a _ h1)
    exact .tup e hc hd (by simpa using kAts.is ok ks vs its h2 rv)
theorem kAts.is (ok : HOk P w H h) : ∀ (ks : List NestedKey) (vs : List V) (us : List Value), kAts H ks vs → Vals vs us → NestedAll h ks us
  | [], vs, us, hk, r => by
    rw [kAts] at hk; subst hk
    cases r
    exact .nil
  | k :: ks, vs, us, hk, r => by
    rw [kAts] at hk
    obtain ⟨v, rs, rfl, h1, h2⟩ := hk
    cases r with
    | cons r t => exact .cons (kAt.is ok k v _ h1 r) (kAts.is ok ks rs _ h2 t)
end
end
/-! ### dicts -/
abbrev Ent : Type := NestedKey × Addr × Value
def dnP (P : Program) (w : World) (a : Addr) (xs : List Ent) (h : Heap) : Prop := ∃ o es ep, h.get? a = some o ∧ o.ExactDict ∧ o.data = .dict es ep ∧ es.toList = xs.map (entryOfKey (nestedKind P w))
/-- a dict with these entries -/
def dnO (P : Program) (w : World) (a : Addr) (xs : List Ent) : HO := .ext (dnP P w a xs)
theorem dnO_ok {P : Program} {w : World} {H : Hp} {h : Heap} {a : Addr} {xs : List Ent} (x : dnP P w a xs h) : ObjOk P w H h a (dnO P w a xs) :=
  ⟨x, let ⟨o, _, _, e, _⟩ := x; ⟨o, e⟩, fun _ _ ⟨o, es, ep, e, r⟩ k => ⟨o, es, ep, k _ e, r⟩⟩
theorem dnO_mut {P : Program} {w : World} {a : Addr} {xs : List Ent} : Mut (some (dnO P w a xs)) := trivial
abbrev DRel (H : Hp) : List (NestedKey × V) → List Ent → Prop := Paired fun p q => p.1 = q.1 ∧ (kAt H p.1 (.ref q.2.1) ∧ p.1.depth ≤ 8) ∧ L2.RelV p.2 q.2.2
theorem DRel.mono {H H' : Hp} (s : ∀ b xs, H b = some (.tup xs) → H' b = some (.tup xs)) {kvs : List (NestedKey × V)} {xs : List Ent} (r : DRel H kvs xs) : DRel H' kvs xs :=
  Paired.mapP r fun p q z => ⟨z.1, ⟨kAt.mono s _ _ z.2.1.1, z.2.1.2⟩, z.2.2⟩
theorem DRel.val {H : Hp} {kvs : List (NestedKey × V)} {xs : List Ent} (r : DRel H kvs xs) (k : NestedKey) : RelO (valV kvs k) ((atKey xs k).map (·.2)) := by
  unfold DRel at r
  induction r with
  | nil => exact trivial
  | @cons p q l₁ l₂ z t ih =>
    obtain ⟨e, _, r⟩ := z
    by_cases h : p.1 = k
    · rw [valV_pos h]
      have h2 : q.1 = k := e ▸ h
      simp only [atKey, List.find?_cons, h2, decide_true, Option.map_some]
      exact r
    · rw [valV_neg h]
      have h2 : ¬ q.1 = k := fun z => h (e.trans z)
      simp only [atKey, List.find?_cons, h2, decide_false] at ih ⊢
      exact ih
theorem DRel.keys {H : Hp} {kvs : List (NestedKey × V)} {xs : List Ent} (r : DRel H kvs xs) : kvs.map (·.1) = xs.map (·.1) := by
  unfold DRel at r
  induction r with
  | nil => rfl
  | cons z t ih => rw [List.map_cons, List.map_cons, ih, z.1]
theorem DRel.len {H : Hp} {kvs : List (NestedKey × V)} {xs : List Ent} (r : DRel H kvs xs) : kvs.length = xs.length := Paired.length r
/-- at a stands a dict with these pairs, to be read -/
def DN (G : G3) (H : Hp) (a : Addr) (kvs : List (NestedKey × V)) : Prop := (a == sysModules) = false ∧ kvs.length ≤ sizeLine ∧ (kvs.map (·.1)).Nodup ∧ ∃ xs, Rd H a (dnO G.P G.w a xs) ∧ DRel H kvs xs
/-- .. to be read and written -/
def DW' (G : G3) (H : Hp) (a : Addr) (kvs : List (NestedKey × V)) : Prop := (a == sysModules) = false ∧ kvs.length ≤ sizeLine ∧ (kvs.map (·.1)).Nodup ∧ ∃ xs, H a = some (dnO G.P G.w a xs) ∧ DRel H kvs xs
theorem DW'.rd {G : G3} {H : Hp} {a : Addr} {kvs : List (NestedKey × V)} (h : DW' G H a kvs) : DN G H a kvs := let ⟨h1, h2, h3, xs, h4, h5⟩ := h; ⟨h1, h2, h3, xs, .inl h4, h5⟩
theorem DN.mono {G : G3} {H H' : Hp} {a : Addr} {kvs : List (NestedKey × V)} (s : Same H H') (h : DN G H a kvs) : DN G H' a kvs :=
  let ⟨h1, h2, h3, xs, h4, h5⟩ := h
  ⟨h1, h2, h3, xs, h4.elim (fun e => .inl (s _ _ e)) (fun ⟨o, e⟩ => .inr ⟨o, s _ _ e⟩), h5.mono (tups_of s)⟩
theorem DW'.mono {G : G3} {H H' : Hp} {a : Addr} {kvs : List (NestedKey × V)} (s : Same H H') (h : DW' G H a kvs) : DW' G H' a kvs :=
  let ⟨h1, h2, h3, xs, h4, h5⟩ := h
  ⟨h1, h2, h3, xs, s _ _ h4, h5.mono (tups_of s)⟩
/-- it stays while its own object and the tuples stay -/
theorem DW'.stay {G : G3} {H H' : Hp} {a : Addr} {kvs : List (NestedKey × V)} (h : DW' G H a kvs) (ha : H' a = H a) (s : ∀ b xs, H b = some (.tup xs) → H' b = some (.tup xs)) : DW' G H' a kvs :=
  let ⟨h1, h2, h3, xs, h4, h5⟩ := h
  ⟨h1, h2, h3, xs, ha.trans h4, h5.mono s⟩
theorem DW'.ne {G : G3} {H : Hp} {a b : Addr} {kvs : List (NestedKey × V)} (h : DW' G H a kvs) {o : HO} (hb : H b = some o) (ho : ∀ φ, o ≠ .ext φ) : a ≠ b := by
  obtain ⟨_, _, _, xs, h4, _⟩ := h
  exact ne_of h4 hb (Ne.symm (ho _))
theorem DW'.there {G : G3} {H : Hp} {a : Addr} {kvs : List (NestedKey × V)} (h : DW' G H a kvs) : ∃ o, H a = some o := let ⟨_, _, _, xs, h4, _⟩ := h; ⟨_, h4⟩
section
variable {X : Cx} {pins : List (Addr × Obj)} {σ : L2.St} {H : Hp} {s : Shared}
abbrev gX (X : Cx) : G3 := ⟨X.prog, X.w, X.K⟩
theorem DRel.is {P : Program} {w : World} {h : Heap} (ok : HOk P w H h) {kvs : List (NestedKey × V)} {xs : List Ent} (r : DRel H kvs xs) : ∀ x ∈ xs, (nestedKind P w).is h x.1 x.2.1 := by
  unfold DRel at r
  induction r with
  | nil => intro x hx; cases hx
  | @cons p q l₁ l₂ z t ih =>
    intro x hx
    rcases List.mem_cons.mp hx with e | hx
    · subst e
      obtain ⟨e, ⟨h1, h2⟩, _⟩ := z
      rw [e] at h1 h2
      exact ⟨kAt.is ok _ _ _ h1 rfl, h2⟩
    · exact ih x hx
/-- what the machine has of it -/
theorem DN.ok {P : Program} {w : World} {K : PySem.W.Frag} {h : Heap} {a : Addr} {kvs : List (NestedKey × V)} (d : DN ⟨P, w, K⟩ H a kvs) (ok : HOk P w H h) : ∃ xs, h.DictOfH (nestedKind P w) a xs ∧ DRel H kvs xs ∧ Rd H a (dnO P w a xs) := by
  obtain ⟨h1, h2, h3, xs, h4, h5⟩ := d
  obtain ⟨⟨o, es, ep, e, he, hd, hx⟩, _⟩ := (show ObjOk P w H h a (dnO P w a xs) from h4.ok ok)
  exact ⟨xs, ⟨o, es, ep, e, he, hd, hx, h5.is ok, by rw [← h5.keys]; exact h3⟩, h5, h4⟩
theorem key_is {P : Program} {w : World} {h : Heap} (ok : HOk P w H h) {k : NestedKey} {b : Addr} (hk : kAt H k (.ref b)) (hd : k.depth ≤ 8) : (nestedKind P w).is h k b := ⟨kAt.is ok _ _ _ hk rfl, hd⟩
/-! ### rules -/
/-- d[k] -/
def oIxD (G : G3) : R2 := fun x y H Q => ∃ a b k kvs v, x = .ref a ∧ y = .ref b ∧ DN G H a kvs ∧ kAt H k (.ref b) ∧ k.depth ≤ 8 ∧ valV kvs k = some v ∧ Q v H
theorem pe_ixD {a b : Expr} {pos : Pos} {ta tb : TE} (hu : X.A.units + 64 < cLine) (ha : PE X a ta) (hb : PE X b tb) (hs : NoSl b) : PE X (.Subscript a b pos) (tOp (oIxD (gX X)) ta tb) := by
  refine ⟨fun pins s σ H Q I h => ?_⟩
  refine subD_of PySem.F.slot_dict_getitem.lookup hs (thn (ha.run pins s σ H _ I h) fun u s1 ⟨x, H1, I1, rx, q1⟩ => thn (hb.run pins s1 σ H1 _ I1 q1) fun iv s2 ⟨y, H2, I2, ry, a, b, k, kvs, z, ex, ey, hd, hk, hdp, hv, q⟩ => ?_)
  subst ex
  subst ey
  obtain rfl : u = Value.ref a := rx
  obtain rfl : iv = Value.ref b := ry
  obtain ⟨xs, dd, rel, _⟩ := hd.ok I2.hok
  have r := rel.val k
  rw [hv] at r
  obtain ⟨uv, h1, h2⟩ := RelO.some_of r
  obtain ⟨p, hp, rfl⟩ := Option.map_eq_some_iff.mp h1
  exact ⟨dd.typeIs, wpAny_getItem_heap (by show X.A.units + 1 + 8 < cLine; omega) (key_is I2.hok hk hdp) dd hp ⟨z, H2, I2.tok _, h2, q⟩⟩
/-- k in d, k not in d -/
def oInD (G : G3) : R2 := fun x y H Q => ∃ a b k kvs, y = .ref a ∧ x = .ref b ∧ DN G H a kvs ∧ kAt H k (.ref b) ∧ k.depth ≤ 8 ∧ Q (.bl (valV kvs k).isSome) H
def oNinD (G : G3) : R2 := fun x y H Q => ∃ a b k kvs, y = .ref a ∧ x = .ref b ∧ DN G H a kvs ∧ kAt H k (.ref b) ∧ k.depth ≤ 8 ∧ Q (.bl (!(valV kvs k).isSome)) H
theorem isSome_at {kvs : List (NestedKey × V)} {xs : List Ent} (rel : DRel H kvs xs) (k : NestedKey) : (valV kvs k).isSome = (atKey xs k).isSome := by
  have r := (rel.val k).isSome_eq
  rw [r, Option.isSome_map]
theorem op_in_d (hu : X.A.units + 64 < cLine) : OpR X (compareOp .In) (oInD (gX X)) := by
  intro pins s σ H x y v u Q I rx ry h
  obtain ⟨a, b, k, kvs, rfl, rfl, hd, hk, hdp, q⟩ := h
  cases (show v = Value.ref b from rx)
  cases (show u = Value.ref a from ry)
  obtain ⟨xs, dd, rel, _⟩ := hd.ok I.hok
  rw [isSome_at rel] at q
  exact wpAny_in_heap (by show X.A.units + 1 + 8 < cLine; omega) (key_is I.hok hk hdp) hd.1 dd ⟨.bl _, H, I.tok _, rfl, q⟩
theorem op_notin_d (hu : X.A.units + 64 < cLine) : OpR X (compareOp .NotIn) (oNinD (gX X)) := by
  intro pins s σ H x y v u Q I rx ry h
  obtain ⟨a, b, k, kvs, rfl, rfl, hd, hk, hdp, q⟩ := h
  cases (show v = Value.ref b from rx)
  cases (show u = Value.ref a from ry)
  obtain ⟨xs, dd, rel, _⟩ := hd.ok I.hok
  rw [isSome_at rel] at q
  show wpAny _ _ (contains (.ref a) (.ref b) >>= fun z => pure (Value.bool !z)) _ _ s
  exact wpAny_bind (wpAny_contains_heap (by show X.A.units + 1 + 8 < cLine; omega) (key_is I.hok hk hdp) hd.1 dd (wpAny_pure ⟨.bl _, H, I.tok _, rfl, q⟩))
/-- d[k] = v -/
def oSetD (G : G3) : TSet := fun o i v H Q => ∃ a b k kvs, o = .ref a ∧ i = .ref b ∧ DW' G H a kvs ∧ kAt H k (.ref b) ∧ k.depth ≤ 8 ∧ kvs.length < sizeLine ∧ ∀ H' xs, H' = upd H a (dnO G.P G.w a xs) → DW' G H' a (putK kvs k v) → Q H'
theorem DRel.repl {kvs : List (NestedKey × V)} {xs : List Ent} (r : DRel H kvs xs) (k : NestedKey) {y : V} {u : Value} (ry : L2.RelV y u) :
    DRel H (kvs.map fun kv => if kv.1 = k then (kv.1, y) else kv) (xs.map (putAt k u)) := by
  unfold DRel at r ⊢
  induction r with
  | nil => exact .nil
  | @cons p q l₁ l₂ z t ih =>
    rw [List.map_cons, List.map_cons]
    refine .cons ?_ ih
    obtain ⟨e, hk, r⟩ := z
    by_cases h : p.1 = k
    · have h2 : q.1 = k := e ▸ h
      unfold putAt
      rw [if_pos h, if_pos h2]
      exact ⟨e, hk, ry⟩
    · have h2 : ¬ q.1 = k := fun z => h (e.trans z)
      unfold putAt
      rw [if_neg h, if_neg h2]
      exact ⟨e, hk, r⟩
theorem DRel.snoc {kvs : List (NestedKey × V)} {xs : List Ent} (r : DRel H kvs xs) {p : NestedKey × V} {q : Ent} (z : p.1 = q.1 ∧ (kAt H p.1 (.ref q.2.1) ∧ p.1.depth ≤ 8) ∧ L2.RelV p.2 q.2.2) : DRel H (kvs ++ [p]) (xs ++ [q]) := by
  unfold DRel at r ⊢
  induction r with
  | nil => exact .cons z .nil
  | cons a t ih => exact .cons a ih
theorem DRel.put {kvs : List (NestedKey × V)} {xs : List Ent} (r : DRel H kvs xs) {k : NestedKey} {b : Addr} {y : V} {u : Value} (hk : kAt H k (.ref b)) (hd : k.depth ≤ 8) (ry : L2.RelV y u) : DRel H (putK kvs k y) (storedH xs k b u) := by
  unfold putK storedH
  rw [valV_any, isSome_at r k]
  split
  · exact r.repl k ry
  · exact r.snoc ⟨rfl, ⟨hk, hd⟩, ry⟩
theorem nodup_put {kvs : List (NestedKey × V)} (h : (kvs.map (·.1)).Nodup) (k : NestedKey) (v : V) : ((putK kvs k v).map (·.1)).Nodup := by
  unfold putK
  split
  · have e : (kvs.map fun kv => if kv.1 = k then (kv.1, v) else kv).map (·.1) = kvs.map (·.1) := by
      rw [List.map_map]
      refine List.map_congr_left fun x _ => ?_
      show (if x.1 = k then (x.1, v) else x).1 = x.1
      split <;> rfl
    rw [e]; exact h
  · rename_i hn
    rw [List.map_append, List.nodup_append]
    refine ⟨h, by simp, fun a ha b hb e => ?_⟩
    have hb' : b = k := by simpa using hb
    subst e
    subst hb'
    obtain ⟨p, hp, hpe⟩ := List.mem_map.mp ha
    exact hn (List.any_eq_true.mpr ⟨p, hp, decide_eq_true hpe⟩)
theorem set_d (hu : X.A.units + 64 < cLine) : PSet X (oSetD (gX X)) := by
  intro pins s σ H o i v ov iv u Q I ro ri rv h
  obtain ⟨a, b, k, kvs, rfl, rfl, hd, hk, hdp, hl, q⟩ := h
  cases (show ov = Value.ref a from ro)
  cases (show iv = Value.ref b from ri)
  obtain ⟨h1, h2, h3, xs, h4, h5⟩ := hd
  obtain ⟨xs', dd, rel, _⟩ := (show DN (gX X) H a kvs from ⟨h1, h2, h3, xs, .inl h4, h5⟩).ok I.hok
  refine wpAny_setItem_heap (by show X.A.units + 1 + 8 < cLine; omega) (key_is I.hok hk hdp) dd (fun h' hd' hs => ?_) (by rw [← rel.len]; exact h2)
  obtain ⟨o, es, ep, e, he, hdd, hx, _, _⟩ := id hd'
  have mu : Mut (H a) := by rw [h4]; exact trivial
  have I2 := L2.d_write (a := a) (h' := h') (t' := s.toks + (nestedKind X.prog X.w).draws k) (ob := dnO X.prog X.w a (storedH xs' k b u)) I mu hs ⟨o, e⟩ (dnO_ok ⟨o, es, ep, e, he, hdd, hx⟩)
  have tp : ∀ c ys, H c = some (.tup ys) → (upd H a (dnO X.prog X.w a (storedH xs' k b u))) c = some (.tup ys) := fun c ys ec => by
    rw [upd_ne (ne_of ec h4 (by unfold dnO; simp))]; exact ec
  exact ⟨_, I2, q _ _ rfl ⟨h1, Nat.le_trans (length_putK kvs k v) hl, nodup_put h3 k v, _, upd_same, (rel.put hk hdp rv).mono tp⟩⟩
/-- {} -/
def tDNew (G : G3) : TE := fun _ H Q => ∀ p H', H p = none → Same H H' → (∀ b, b ≠ p → H' b = H b) → DW' G H' p [] → Q (.ref p) H'
theorem pe_dnew {pos : Pos} : PE X (.Dict [] [] pos) (tDNew (gX X)) := ⟨fun pins s σ H Q I h => by
  have fr := I.hok.fresh (Nat.le_refl _)
  have hbig := I.big
  have ok : dnP X.prog X.w s.heap.objs.size [] (s.heap.push { cls := .type "dict", data := .dict #[] }) := ⟨_, #[], 0, Heap.get?_push_size _ rfl, ⟨rfl, rfl, rfl⟩, rfl, rfl⟩
  have I2 := I.laid (a := s.heap.objs.size) (o := dnO X.prog X.w s.heap.objs.size []) (t' := s.toks) (fun _ _ q => Heap.get?_push_of_some _ q) (Nat.le_refl _) (dnO_ok ok)
  exact wpAny_Dict_empty ⟨.ref s.heap.objs.size, _, I2, rfl, h _ _ fr (same_new fr) (fun b hb => upd_ne hb) ⟨beq_eq_false_iff_ne.mpr (Ne.symm (Nat.ne_of_lt hbig)), Nat.zero_le _, List.nodup_nil, [], upd_same, .nil⟩⟩⟩
end
end LT

set_option Elab.async false
set_option linter.all false
set_option maxRecDepth 100000
set_option maxHeartbeats 4000000
/-! LTo: dicts with tuple keys: len, list, ==, dict. -/
namespace LT
open PySem PySem.Spec PyProof.Rows L2
section
variable {prog : Program} {w : World} {K : Type} [DecidableEq K] {knd : HeapKind prog w K} {A : Around} {E : Value → Shared → Prop} {s : Shared}
theorem pairsAll {nm : String} {a b : Addr} {ka kb : List (K × Addr × Value)} {Q : Bool → Shared → Prop} (ha : (a == sysModules) = false) (hb : (b == sysModules) = false) (hu : knd.room A)
    (da : s.heap.DictOfH knd a ka) (db : s.heap.DictOfH knd b kb) (hl : ka.length = kb.length) (hits : ∀ x ∈ ka, ∃ p, atKey kb x.1 = some p ∧ SeqAt.EqAt A s x.2.2 p.2 true) (h : Q true s) :
    wpAny (model prog w) A (Builtin.Dict.samePairs nm a b) Q E s := by
  obtain ⟨oa, es, ep, hoa, _, hda, hea, hia, hna⟩ := da
  obtain ⟨ob, es', ep', hob, _, hdb, heb, hib, hnb⟩ := db
  have hla : es.size = ka.length := size_of_entries hea
  have hlb : es'.size = kb.length := size_of_entries heb
  have hsz : es.size = es'.size := by rw [hla, hlb, hl]
  unfold Builtin.Dict.samePairs Builtin.Dict.showsAll
  rw [if_neg (show ¬ (a == sysModules) = true by rw [ha]; exact Bool.false_ne_true), if_neg (show ¬ (b == sysModules) = true by rw [hb]; exact Bool.false_ne_true)]
  refine wpAny_bind (wpAny_pure (wpAny_bind (wpAny_pure ?_)))
  refine wpAny_bind (wpAny_dictEntries hoa hda ?_)
  dsimp only
  refine wpAny_bind (wpAny_dictEntries hob hdb ?_)
  rw [if_neg (by rw [hsz]; simp)]
  refine wpAny_bind (wpAny_dictEpoch hoa hda ?_)
  refine wpAny_bind ?_
  rw [Std.Legacy.Range.forIn_eq_forIn_range']
  simp only [Std.Legacy.Range.size, Nat.sub_zero, Nat.add_sub_cancel, Nat.div_one]
  refine wpAny_forIn_list _
    (fun rest q s' => s' = s ∧ q = (none, ()) ∧ ∃ i, rest = List.range' i (es.size - i) ∧ i ≤ es.size)
    _ ?_ ?_ _ _ ⟨rfl, rfl, 0, by simp, Nat.zero_le _⟩
  · rintro x rest q s' ⟨rfl, rfl, i, hr, hi⟩
    have hlt : i < es.size := by
      rcases Nat.lt_or_ge i es.size with h | h
      · exact h
      · rw [Nat.sub_eq_zero_of_le h] at hr; simp at hr
    obtain ⟨rfl, hrest⟩ : x = i ∧ rest = List.range' (i + 1) (es.size - (i + 1)) := by
      have e : es.size - i = (es.size - (i + 1)) + 1 := by omega
      rw [e, List.range'_succ] at hr
      injection hr with h1 h2
      exact ⟨h1, h2⟩
    refine wpAny_bind (wpAny_dictEntries hoa hda ?_)
    obtain ⟨⟨k, c, v⟩, hkv⟩ : ∃ kv, ka[x]? = some kv := ⟨ka[x]'(by rw [← hla]; exact hlt), List.getElem?_eq_getElem _⟩
    have hmem := List.mem_of_getElem? hkv
    rw [entry_at hea x, hkv]
    show wpAny _ _ (holding [.ref c, v] _ >>= _) _ _ _
    obtain ⟨⟨c2, v2⟩, hp, heq⟩ := hits _ hmem
    refine wpAny_bind (wpAny_holding (wpAny_bind (wpAny_dictFind_heap hu (hia _ hmem) hob hdb heb hib hnb (fun hno => ?_) (fun j p hj => ?_))))
    · exfalso
      unfold atKey at hp
      obtain ⟨y, hy, hy2⟩ := Option.map_eq_some_iff.mp hp
      obtain ⟨j, hj⟩ := List.getElem?_of_mem (List.mem_of_find?_eq_some hy)
      have hk : y.1 = k := by simpa using List.find?_some hy
      exact hno j y.2 (by rw [hj, ← hk])
    · have hpe : p = (c2, v2) := by
        unfold atKey at hp
        obtain ⟨y, hy, hy2⟩ := Option.map_eq_some_iff.mp hp
        obtain ⟨j', hj'⟩ := List.getElem?_of_mem (List.mem_of_find?_eq_some hy)
        have hk : y.1 = k := by simpa using List.find?_some hy
        have hj2 : kb[j']? = some (k, y.2) := by rw [hj', ← hk]
        have e := idxH_unique hnb hj hj2
        subst e
        rw [hj] at hj2
        injection hj2 with hj2
        injection hj2 with _ hj2
        rw [hj2, hy2]
      subst hpe
      refine wpAny_bind (wpAny_dictEntries hob hdb ?_)
      rw [entry_at heb j, hj]
      refine wpAny_holding (heq prog w E _ ?_)
      show wpAny _ _ (if (!true) = true then _ else _) _ _ _
      rw [if_neg (by decide)]
      refine wpAny_bind (wpAny_dictEpoch hoa hda ?_)
      rw [if_neg (by simp)]
      exact wpAny_pure ⟨rfl, rfl, x + 1, hrest, hlt⟩
  · rintro q s' ⟨rfl, rfl, i, hr, hi⟩
    exact wpAny_pure h
theorem eqAll {a b : Addr} {ka kb : List (K × Addr × Value)} {Q : Value → Shared → Prop} (ha : (a == sysModules) = false) (hb : (b == sysModules) = false) (hu : knd.room A.in1) (hc : A.units < cLine)
    (da : s.heap.DictOfH knd a ka) (db : s.heap.DictOfH knd b kb) (hl : ka.length = kb.length) (hits : ∀ x ∈ ka, ∃ p, atKey kb x.1 = some p ∧ SeqAt.EqAt A.in1 s x.2.2 p.2 true) (h : Q (.bool true) s) :
    wpAny (model prog w) A (compareOp .Eq (.ref a) (.ref b)) Q E s := by
  refine wpAny_richCompare_same_room (op := .Eq) da.typeIs db.typeIs PySem.F.slot_dict_eq (wpAny_call_entry PySem.F.slot_dict_eq da.typeIs PySem.F.entry_dict_eq ?_ (PySem.F.args_dict_eq_2 _ _)) hc
  show wpAny _ _ (Builtin.Dict.dictSlotArgs "__eq__" ⟨[.ref a, .ref b], []⟩ >>= _) _ _ s
  refine wpAny_bind ?_
  unfold Builtin.Dict.dictSlotArgs
  refine wpAny_bind (wpAny_notOrdered_dict da.typeIs ?_)
  show wpAny _ _ (pure (Value.ref a, Value.ref b)) _ _ s
  refine wpAny_pure ?_
  refine wpAny_bind (wpAny_isInstance (T := "dict") db.typeIs PySem.F.sub_dict_dict ?_)
  simp only [Bool.not_true, Bool.false_eq_true, if_false]
  refine wpAny_bind (wpAny_pure (wpAny_bind (wpAny_pure ?_)))
  refine wpAny_bind (pairsAll ha hb hu da db hl hits ?_)
  refine wpAny_pure ⟨_, rfl, ?_, ?_⟩
  · exact fun x => nomatch x
  · exact h
theorem neAll {a b : Addr} {ka kb : List (K × Addr × Value)} {Q : Value → Shared → Prop} (ha : (a == sysModules) = false) (hb : (b == sysModules) = false) (hu : knd.room A.in1) (hc : A.units < cLine)
    (da : s.heap.DictOfH knd a ka) (db : s.heap.DictOfH knd b kb) (hl : ka.length = kb.length) (hits : ∀ x ∈ ka, ∃ p, atKey kb x.1 = some p ∧ SeqAt.EqAt A.in1 s x.2.2 p.2 true) (h : Q (.bool false) s) :
    wpAny (model prog w) A (compareOp .NotEq (.ref a) (.ref b)) Q E s := by
  refine wpAny_richCompare_same_room (op := .NotEq) da.typeIs db.typeIs PySem.F.slot_dict_ne (wpAny_call_entry PySem.F.slot_dict_ne da.typeIs PySem.F.entry_dict_ne ?_ (PySem.F.args_dict_ne_2 _ _)) hc
  show wpAny _ _ (Builtin.Dict.dictSlotArgs "__ne__" ⟨[.ref a, .ref b], []⟩ >>= _) _ _ s
  refine wpAny_bind ?_
  unfold Builtin.Dict.dictSlotArgs
  refine wpAny_bind (wpAny_notOrdered_dict da.typeIs ?_)
  show wpAny _ _ (pure (Value.ref a, Value.ref b)) _ _ s
  refine wpAny_pure ?_
  refine wpAny_bind (wpAny_isInstance (T := "dict") db.typeIs PySem.F.sub_dict_dict ?_)
  simp only [Bool.not_true, Bool.false_eq_true, if_false]
  refine wpAny_bind (wpAny_pure (wpAny_bind (wpAny_pure ?_)))
  refine wpAny_bind (pairsAll ha hb hu da db hl hits ?_)
  refine wpAny_pure ⟨_, rfl, ?_, ?_⟩
  · exact fun x => nomatch x
  · exact h
end
/-- the same pairs, whatever their order; the values no objects -/
def SameKV (ks ls : List (NestedKey × V)) : Prop := ks.length = ls.length ∧ ∀ p ∈ ks, valV ls p.1 = some p.2 ∧ flatB p.2 = true
def oEqD (G : G3) : R2 := fun x y H Q => ∃ a b ks ls, x = .ref a ∧ y = .ref b ∧ DN G H a ks ∧ DN G H b ls ∧ SameKV ks ls ∧ Q (.bl true) H
def oNeD (G : G3) : R2 := fun x y H Q => ∃ a b ks ls, x = .ref a ∧ y = .ref b ∧ DN G H a ks ∧ DN G H b ls ∧ SameKV ks ls ∧ Q (.bl false) H
theorem DRel.mem {H : Hp} {kvs : List (NestedKey × V)} {xs : List Ent} (r : DRel H kvs xs) : ∀ x ∈ xs, ∃ p ∈ kvs, p.1 = x.1 ∧ L2.RelV p.2 x.2.2 ∧ kAt H p.1 (.ref x.2.1) ∧ p.1.depth ≤ 8 := by
  unfold DRel at r
  induction r with
  | nil => intro x hx; cases hx
  | @cons p q l₁ l₂ z t ih =>
    intro x hx
    rcases List.mem_cons.mp hx with e | hx
    · subst e
      exact ⟨p, List.mem_cons_self, z.1, z.2.2, z.2.1⟩
    · obtain ⟨p, hp, e⟩ := ih x hx
      exact ⟨p, List.mem_cons_of_mem _ hp, e⟩
theorem same_hits {H : Hp} {A : Around} {s : Shared} {ks ls : List (NestedKey × V)} {xs ys : List Ent} (rx : DRel H ks xs) (ry : DRel H ls ys) (h : SameKV ks ls) : ∀ x ∈ xs, ∃ p, atKey ys x.1 = some p ∧ SeqAt.EqAt A s x.2.2 p.2 true := by
  intro x hx
  obtain ⟨p, hp, e, r, _⟩ := rx.mem x hx
  obtain ⟨e1, f⟩ := h.2 p hp
  have rr := ry.val p.1
  rw [e1] at rr
  obtain ⟨u, h1, h2⟩ := RelO.some_of rr
  obtain ⟨q, hq, rfl⟩ := Option.map_eq_some_iff.mp h1
  rw [e] at hq
  exact ⟨q, hq, eqAt_same r h2 f⟩
theorem DRel.addrs {H : Hp} {kvs : List (NestedKey × V)} {xs : List Ent} (r : DRel H kvs xs) : Paired (fun (kv : NestedKey × V) (b : Addr) => kAt H kv.1 (.ref b)) kvs (xs.map fun x => x.2.1) := by
  unfold DRel at r
  induction r with
  | nil => exact .nil
  | cons z t ih => exact .cons z.2.1.1 ih
section
variable {X : Cx}
theorem op_eq_d (hu : X.A.units + 64 < cLine) : OpR X (compareOp .Eq) (oEqD (gX X)) := by
  intro pins s σ H x y v u Q I rx ry h
  obtain ⟨a, b, ks, ls, rfl, rfl, da, db, hs, q⟩ := h
  cases (show v = Value.ref a from rx)
  cases (show u = Value.ref b from ry)
  obtain ⟨xs, dd, rel, _⟩ := da.ok I.hok
  obtain ⟨ys, de, sel, _⟩ := db.ok I.hok
  exact eqAll da.1 db.1 (by show X.A.units + 1 + 8 < cLine; omega) (by omega) dd de (by rw [← rel.len, ← sel.len]; exact hs.1) (same_hits rel sel hs) ⟨.bl _, H, I, rfl, q⟩
theorem op_ne_d (hu : X.A.units + 64 < cLine) : OpR X (compareOp .NotEq) (oNeD (gX X)) := by
  intro pins s σ H x y v u Q I rx ry h
  obtain ⟨a, b, ks, ls, rfl, rfl, da, db, hs, q⟩ := h
  cases (show v = Value.ref a from rx)
  cases (show u = Value.ref b from ry)
  obtain ⟨xs, dd, rel, _⟩ := da.ok I.hok
  obtain ⟨ys, de, sel, _⟩ := db.ok I.hok
  exact neAll da.1 db.1 (by show X.A.units + 1 + 8 < cLine; omega) (by omega) dd de (by rw [← rel.len, ← sel.len]; exact hs.1) (same_hits rel sel hs) ⟨.bl _, H, I, rfl, q⟩
/-- len(d) -/
def oLenD (G : G3) : List V → Hp → VK → Prop := fun xs H Q => ∃ a kvs, xs = [.ref a] ∧ DN G H a kvs ∧ Q (.int ((kvs.length : Nat) : Int)) H
theorem call_len_d : CallR X (.builtin "len") (oLenD (gX X)) := by
  intro pins s σ H xs us Q I r h
  obtain ⟨a, kvs, rfl, hd, q⟩ := h
  obtain ⟨u, rfl, rx⟩ := vals1 r
  cases (show u = Value.ref a from rx)
  obtain ⟨ys, dd, rel, _⟩ := hd.ok I.hok
  have hl := rel.len
  refine call_len_dictH hd.1 dd (by have := hd.2.1; rw [← hl]; rw [sizeLine_eq] at this; omega) ?_
  rw [← hl]
  exact ⟨.int ((kvs.length : Nat) : Int), H, I.tok _, ⟨_, rfl⟩, q⟩
/-- list(d) -/
def oListD (G : G3) : List V → Hp → VK → Prop := fun xs H Q => ∃ a kvs, xs = [.ref a] ∧ DN G H a kvs ∧ ∀ p bs, H p = none → Paired (fun kv b => kAt H kv.1 (.ref b)) kvs bs → Q (.ref p) (upd H p (.lst (bs.map V.ref)))
theorem call_list_d (hc : X.calm = true) : CallR X (.type "list") (oListD (gX X)) := by
  intro pins s σ H xs us Q I r h
  obtain ⟨d, kvs, rfl, hd, q⟩ := h
  obtain ⟨u, rfl, rx⟩ := r.one
  cases rx
  obtain ⟨ks, dd, pr, _⟩ := hd.ok I.hok
  obtain ⟨o, es, ep, ho, hx, hdt, he, hi, hn⟩ := dd
  have l1 : es.size = ks.length := size_of_entries he
  have l2 : kvs.length = ks.length := pr.len
  have z := hd.2.1
  refine PySem.W.kdl_call (kdl_raw hd.1 hx hdt) (I.ok.hd hc) ho (by omega) fun h' tk acc' c' kp e it => ?_
  have ea : acc'.toList = ks.map fun x => Value.ref x.2.1 := by
    have hl : acc'.toList.length = ks.length := by rw [Array.length_toList, it.1]; exact l1
    apply List.ext_getElem?
    intro j
    rw [List.getElem?_map]
    cases hj : acc'.toList[j]? with
    | none =>
      have h1 := List.getElem?_eq_none_iff.mp hj
      rw [List.getElem?_eq_none (by omega)]
      all_goals rfl
    | some v =>
      obtain ⟨en, hen, hv⟩ := it.2 j v (by rw [← Array.getElem?_toList]; exact hj)
      have qe := entry_at he j
      rw [hen] at qe
      cases hb : ks[j]? with
      | none =>
        rw [hb] at qe
        exact nomatch (show some en = none from qe)
      | some b =>
        rw [hb] at qe
        have e2 : en = entryOfKey (nestedKind X.prog X.w) b := Option.some.inj qe
        rw [hv, e2]
        all_goals rfl
  have eb : acc'.toList = (ks.map fun x => x.2.1).map Value.ref := by rw [ea, List.map_map]; all_goals rfl
  have rv : Vals ((ks.map fun x => x.2.1).map V.ref) acc'.toList := by rw [eb]; exact vals_refs _
  have hz : ((ks.map fun x => x.2.1).map V.ref).length ≤ sizeLine := by rw [List.length_map, List.length_map]; omega
  have pk := pr.addrs
  refine ⟨.ref s.heap.objs.size, _, I.laid (t' := tk) (o := .lst ((ks.map fun x => x.2.1).map V.ref)) kp (Nat.le_refl _) ?_, rfl, q _ _ (I.hok.fresh (Nat.le_refl _)) pk⟩
  exact ⟨hz, acc'.toList, c', rv, by rw [Array.toArray_toList]; exact e⟩
/-- no two of these keys hash alike -/
def Apart (w : World) (kvs : List (NestedKey × V)) : Prop := (kvs.map fun x => x.1.hash w).Nodup
/-- dict(d) -/
def oDictD (G : G3) : List V → Hp → VK → Prop := fun xs H Q => ∃ a kvs, xs = [.ref a] ∧ DN G H a kvs ∧ Apart G.w kvs ∧ ∀ p H', H p = none → Same H H' → (∀ b, b ≠ p → H' b = H b) → DW' G H' p kvs → Q (.ref p) H'
theorem call_dict_d (hu : X.A.units + 64 < cLine) : CallR X (.type "dict") (oDictD (gX X)) := by
  intro pins s σ H xs us Q I r h
  obtain ⟨d, kvs, rfl, hd, ap, q⟩ := h
  obtain ⟨u, rfl, rx⟩ := r.one
  cases rx
  obtain ⟨more, dd, pr, _⟩ := hd.ok I.hok
  have hl := pr.len
  have z := hd.2.1
  refine callType_codes (Q₁ := fun obj s₁ => obj = .ref s.heap.objs.size ∧ s₁ = { s with heap := s.heap.push { cls := .type "dict", data := .dict #[] } }) F.kt_called_dict (F.kt_typeCall_dict_1 _) F.entry_dict_init (kt_code_dict_new _ ⟨rfl, rfl⟩) ?_
  rintro obj s₁ ⟨rfl, rfl⟩
  have hbig := I.big
  have fr := I.hok.fresh (Nat.le_refl _)
  have ok0 : dnP X.prog X.w s.heap.objs.size [] (s.heap.push { cls := .type "dict", data := .dict #[] }) := ⟨_, #[], 0, Heap.get?_push_size _ rfl, ⟨rfl, rfl, rfl⟩, rfl, rfl⟩
  have I1 := I.laid (a := s.heap.objs.size) (o := dnO X.prog X.w s.heap.objs.size []) (t' := s.toks) (fun _ _ q => Heap.get?_push_of_some _ q) (Nat.le_refl _) (dnO_ok ok0)
  have W1 : DW' (gX X) (upd H s.heap.objs.size (dnO X.prog X.w s.heap.objs.size [])) s.heap.objs.size [] := ⟨beq_eq_false_iff_ne.mpr (Ne.symm (Nat.ne_of_lt hbig)), Nat.zero_le _, List.nodup_nil, [], upd_same, .nil⟩
  have hd1 := hd.mono (same_new (p := s.heap.objs.size) (o := dnO X.prog X.w s.heap.objs.size []) fr)
  obtain ⟨more1, dd1, pr1, _⟩ := hd1.ok I1.hok
  obtain ⟨xs0, dd0, pr0, _⟩ := W1.rd.ok I1.hok
  have ex0 : xs0 = [] := by
    have e := pr0.len
    exact List.length_eq_zero_iff.mp e.symm
  subst ex0
  have hdo : s.heap.objs.size ≠ d := by
    obtain ⟨_, _, _, hg, _⟩ := dd
    exact fun e => absurd (Heap.lt_size hg) (by rw [e]; exact Nat.lt_irrefl _)
  refine ⟨dd0.typeIs, F.args_dict_init_2 _ _, ?_⟩
  unfold Builtin.«dict.__init__»
  refine wpAny_bind ?_
  unfold Builtin.Dict.selfAndRest
  refine wpAny_bind (wpAny_notOrdered_dict dd0.typeIs ?_)
  show wpAny _ _ (pure (s.heap.objs.size, [Value.ref d])) _ _ _
  refine wpAny_pure ?_
  show wpAny _ _ (Builtin.Dict.updateFrom "dict.__init__" s.heap.objs.size (.ref d) [] .none) _ _ _
  unfold Builtin.Dict.updateFrom
  refine wpAny_bind (wpAny_typeOf dd1.typeIs ?_)
  rw [if_neg (by decide)]
  refine wpAny_bind ?_
  unfold Builtin.Dict.merge
  refine wpAny_bind ?_
  unfold Builtin.Dict.readDirectly
  refine wpAny_bind (wpAny_isInstance dd1.typeIs isSubtype_dict_dict ?_)
  simp only [Bool.not_true, Bool.false_eq_true, if_false]
  refine wpAny_bind (wpAny_specialOf dd1.typeIs F.slot_dict_iter.lookup (wpAny_pure ?_))
  simp only [beq_self_eq_true, if_true]
  refine wpAny_bind (wpAny_pure ?_)
  have hap : (more1.map fun x => (nestedKind X.prog X.w).hash x.1).Nodup := by
    have e : (more1.map fun x => (nestedKind X.prog X.w).hash x.1) = kvs.map fun x => x.1.hash X.w := by
      have := congrArg (List.map fun k : NestedKey => k.hash X.w) pr1.keys
      rw [List.map_map, List.map_map] at this
      exact this.symm
    rw [e]; exact ap
  refine wpAny_mergeDict_heap (hsz := by have := pr1.len; simp only [List.length_nil, Nat.zero_add]; omega) (by show X.A.units + 1 + 1 + 8 < cLine; omega) hdo hd.1 dd0 dd1 (.inr ⟨fun x hx => nestedKind_stays.tuple (pr1.is I1.hok x hx), hap⟩) fun h' hd' _ hs' => ?_
  show wpAny _ _ (Builtin.Dict.addKeywords s.heap.objs.size [] >>= _) _ _ _
  rw [storedAllH_nil_of_nodup more1 dd1.nodup] at hd'
  refine wpAny_bind (wpAny_pure (wpAny_pure ⟨rfl, ?_⟩))
  obtain ⟨o, es, ep, e, he, hdd, hx, _, _⟩ := id hd'
  have okn : dnP X.prog X.w s.heap.objs.size more1 h' := ⟨o, es, ep, e, he, hdd, hx⟩
  have I2 := I.laid (a := s.heap.objs.size) (h' := h') (o := dnO X.prog X.w s.heap.objs.size more1) (t' := s.toks) (fun b u q => (hs'.2 b (Nat.ne_of_lt (Heap.lt_size q))).trans (Heap.get?_push_of_some _ q)) (Nat.le_refl _) (dnO_ok okn)
  exact ⟨.ref s.heap.objs.size, _, I2, rfl, q _ _ fr (same_new fr) (fun b hb => upd_ne hb) ⟨W1.1, z, hd.2.2.1, more1, upd_same, pr1.mono fun b ys eb => by
    have hb : b ≠ s.heap.objs.size := by
      intro e
      rw [e, upd_same] at eb
      exact nomatch (Option.some.inj eb)
    rw [upd_ne hb] at eb ⊢
    exact eb⟩⟩
end
end LT

set_option Elab.async false
set_option linter.all false
set_option maxRecDepth 100000
set_option maxHeartbeats 4000000
namespace LT
open PySem PySem.Spec PyProof.Rows L2
local macro_rules | `(tactic| got_up) => `(tactic| repeat (first
  | refine ⟨_, rfl, ?_⟩
  | refine ⟨_, _, rfl, rfl, ?_⟩
  | refine ⟨rfl, ?_⟩
  | refine ⟨_, _, rfl, ?_⟩
  | refine ⟨(.inl ⟨by decide, by decide⟩ : CMul _ _), ?_⟩
  | refine ⟨(by show (0 : Int) < _; first | decide | omega), ?_⟩
  | refine ⟨(⟨by first | decide | omega, by first | decide | omega⟩ : CDiv _ _), ?_⟩))
/-! ### keys of paths -/
def num (n : Nat) : NestedKey := .num (n : Int)
/-- the key that a path is -/
def pk (p : List Nat) : NestedKey := .tup (p.map num)
theorem num_inj {a b : Nat} (h : num a = num b) : a = b := by
  unfold num at h
  injection h with h
  omega
theorem nums_inj : ∀ {p q : List Nat}, p.map num = q.map num → p = q
  | [], [], _ => rfl
  | a :: p, b :: q, h => by
    injection h with h1 h2
    rw [num_inj h1, nums_inj h2]
  | [], _ :: _, h => nomatch h
  | _ :: _, [], h => nomatch h
theorem pk_inj {p q : List Nat} (h : pk p = pk q) : p = q := by
  unfold pk at h
  injection h with h
  exact nums_inj h
theorem kAts_nums (H : Hp) : ∀ p : List Nat, kAts H (p.map num) (p.map vn)
  | [] => by simp only [List.map_nil]; rw [kAts]
  | a :: p => by
    simp only [List.map_cons]
    rw [kAts]
    exact ⟨vn a, p.map vn, rfl, by unfold num; rw [kAt]; rfl, kAts_nums H p⟩
theorem kAt_pk {H : Hp} {p : List Nat} {b : Addr} (h : H b = some (.tup (p.map vn))) : kAt H (pk p) (.ref b) := by
  unfold pk
  rw [kAt]
  exact ⟨b, p.map vn, rfl, h, kAts_nums H p⟩
theorem depth_nums : ∀ p : List Nat, NestedKey.depthAll (p.map num) = 0
  | [] => by rw [List.map_nil, NestedKey.depthAll]
  | a :: p => by
    rw [List.map_cons, NestedKey.depthAll, depth_nums p]
    unfold num
    rw [NestedKey.depth]
    rfl
theorem depth_pk (p : List Nat) : (pk p).depth ≤ 8 := by
  unfold pk
  rw [NestedKey.depth, depth_nums]
  decide
theorem of_kAts_nums {H : Hp} : ∀ {p : List Nat} {vs : List V}, kAts H (p.map num) vs → vs = p.map vn
  | [], vs, h => by
    simp only [List.map_nil] at h
    rw [kAts] at h
    exact h
  | a :: p, vs, h => by
    simp only [List.map_cons] at h
    rw [kAts] at h
    obtain ⟨v, r, rfl, h1, h2⟩ := h
    rw [of_kAts_nums h2]
    unfold num at h1
    rw [kAt] at h1
    rw [h1]
    rfl
theorem of_kAt_pk {H : Hp} {p : List Nat} {b : Addr} (h : kAt H (pk p) (.ref b)) : H b = some (.tup (p.map vn)) := by
  unfold pk at h
  rw [kAt] at h
  obtain ⟨a, vs, e, h1, h2⟩ := h
  injection e with e
  rw [of_kAts_nums h2] at h1
  rw [e]; exact h1
/-- p + (d,) -/
theorem cat1 {K : PySem.W.Frag} {H : Hp} {b t : Addr} {p : List Nat} {d : Nat} {Q : VK} (hb : H b = some (.tup (p.map vn))) (ht : H t = some (.tup [vn d])) (hl : p.length ≤ 1000) (q : ∀ u H', Same H H' → H' u = some (.tup ((p ++ [d]).map vn)) → Q (.ref u) H') : rCatA K (.ref b) (.ref t) H Q := by
  refine ⟨b, t, _, _, rfl, rfl, SqT.of hb, SqT.of ht, ?_, fun z => ?_, ?_, ?_⟩
  · rw [List.length_map]
    exact line8 (by show p.length + 1 ≤ 100000; omega)
  · have hp0 : p = [] := List.map_eq_nil_iff.mp z
    refine q t _ (Same.refl _) ?_
    rw [hp0]
    exact ht
  · intro _ z; cases z
  · intro _ _ u nu
    refine q u _ (same_new nu) ?_
    rw [upd_same, List.map_append]
    rfl
/-! ### the paths that a hand isn't on -/
theorem itM_nodup {n : Nat} : ∀ {k : Nat} {p : List Nat}, 1 ≤ n → p ∈ itM n k → p.Nodup ∧ ∀ x ∈ p, x < n
  | 0, p, hn, h => by
    have e : p = [0] := List.mem_singleton.mp h
    subst e
    exact ⟨by simp, fun x hx => by rw [List.mem_singleton.mp hx]; omega⟩
  | k + 1, p, hn, h => by
    obtain ⟨q, hq, h2⟩ := List.mem_flatMap.mp h
    obtain ⟨o, ho, rfl⟩ := List.mem_map.mp h2
    obtain ⟨h3, h4⟩ := itM_nodup hn hq
    obtain ⟨h5, h6⟩ := mem_hearersM.mp ho
    refine ⟨?_, fun x hx => ?_⟩
    · rw [List.nodup_append]
      refine ⟨h3, by simp, fun a ha b hb e => ?_⟩
      rw [List.mem_singleton.mp hb] at e
      exact h6 (e ▸ ha)
    · rcases List.mem_append.mp hx with h | h
      · exact h4 x h
      · rw [List.mem_singleton.mp h]; exact h5
theorem nodup_lt : ∀ {n : Nat} {l : List Nat}, l.Nodup → (∀ x ∈ l, x < n) → l.length ≤ n
  | 0, l, _, hl => by
    cases l with
    | nil => exact Nat.le_refl _
    | cons x l => exact absurd (hl x (by simp)) (Nat.not_lt_zero _)
  | n + 1, l, h, hl => by
    have h1 := nodup_lt (n := n) (l := l.filter fun x => decide (x ≠ n)) (h.sublist List.filter_sublist) fun x hx => by
      obtain ⟨h1, h2⟩ := List.mem_filter.mp hx
      have h3 := hl x h1
      have h4 : x ≠ n := of_decide_eq_true h2
      omega
    have h2 : l.length ≤ (l.filter fun x => decide (x ≠ n)).length + 1 := by
      clear h1 hl
      induction l with
      | nil => exact Nat.zero_le _
      | cons y l ih =>
        obtain ⟨h3, h4⟩ := List.nodup_cons.mp h
        by_cases e : y = n
        · subst e
          have e2 : (l.filter fun x => decide (x ≠ y)) = l := List.filter_eq_self.mpr fun z hz => decide_eq_true fun (e : z = y) => h3 (by rw [← e]; exact hz)
          rw [List.filter_cons_of_neg (by simp), e2]
          exact Nat.le_refl _
        · rw [List.filter_cons_of_pos (by simpa using e), List.length_cons, List.length_cons]
          exact Nat.succ_le_succ (ih h4)
    omega
/-- a path, and the hand not on it -/
def OnP (n m hand : Nat) (p : List Nat) : Prop := p ∈ pathsM n m ∧ hand ∉ p
theorem mem_pathsM {n m : Nat} {p : List Nat} : p ∈ pathsM n m ↔ ∃ k, k ≤ m ∧ k + 1 < n ∧ p ∈ itM n k := by
  unfold pathsM
  rw [List.mem_flatMap]
  constructor
  · rintro ⟨k, hk, hp⟩
    unfold pathsOf at hp
    split at hp
    · rename_i h
      exact ⟨k, Nat.le_of_lt_succ (List.mem_range.mp hk), h, hp⟩
    · cases hp
  · rintro ⟨k, h1, h2, hp⟩
    refine ⟨k, List.mem_range.mpr (Nat.lt_succ_of_le h1), ?_⟩
    unfold pathsOf
    rw [if_pos h2]
    exact hp
theorem OnP.len {n m hand : Nat} {p : List Nat} (h : OnP n m hand p) : 1 ≤ p.length ∧ p.length ≤ m + 1 := by
  obtain ⟨k, h1, h2, hp⟩ := mem_pathsM.mp h.1
  rw [itM_len hp]
  omega
theorem OnP.step {n m hand o : Nat} {p : List Nat} (h : OnP n m hand p) (hl : p.length < m + 1) (hn : hand < n) (ho : o < n) (hop : o ∉ p) (hoh : o ≠ hand) : OnP n m hand (p ++ [o]) := by
  obtain ⟨⟨k, h1, h2, hp⟩, hh⟩ := And.intro (mem_pathsM.mp h.1) h.2
  have hk := itM_len hp
  have hp2 : p ++ [o] ∈ itM n (k + 1) := List.mem_flatMap.mpr ⟨p, hp, List.mem_map.mpr ⟨o, mem_hearersM.mpr ⟨ho, hop⟩, rfl⟩⟩
  obtain ⟨nd, lt⟩ := itM_nodup (by omega) hp2
  have hh2 : hand ∉ p ++ [o] := by
    intro z
    rcases List.mem_append.mp z with z | z
    · exact hh z
    · exact hoh (List.mem_singleton.mp z).symm
  have hlen : (hand :: (p ++ [o])).length ≤ n := nodup_lt (List.nodup_cons.mpr ⟨hh2, nd⟩) fun x hx => by
    rcases List.mem_cons.mp hx with e | e
    · rw [e]; exact hn
    · exact lt x e
  rw [List.length_cons, List.length_append, List.length_singleton] at hlen
  exact ⟨mem_pathsM.mpr ⟨k + 1, by omega, by omega, hp2⟩, hh2⟩
/-- what a hand takes to be said along a path, k hands ahead of the longest -/
def settledM (n : Nat) (f : List Nat → V) (hand : Nat) : Nat → List Nat → V
  | 0, p => f p
  | k + 1, p => voteM (f p :: ((hearersM n p).filter fun o => decide (o ≠ hand)).map fun o => settledM n f hand k (p ++ [o]))
theorem settledM_sign {n m hand : Nat} {f : List Nat → V} {S : V → Prop} (hS : ∀ ss : List V, (∀ v ∈ ss, S v) → S (voteM ss)) (hn : hand < n) (hf : ∀ q, OnP n m hand q → S (f q)) : ∀ (k : Nat) (p : List Nat), OnP n m hand p → p.length + k = m + 1 → S (settledM n f hand k p)
  | 0, p, h, _ => hf p h
  | k + 1, p, h, e => by
    rw [settledM]
    refine hS _ fun v hv => ?_
    rcases List.mem_cons.mp hv with rfl | hv
    · exact hf p h
    · obtain ⟨o, ho, rfl⟩ := List.mem_map.mp hv
      obtain ⟨h1, h2⟩ := List.mem_filter.mp ho
      obtain ⟨h3, h4⟩ := mem_hearersM.mp h1
      exact settledM_sign hS hn hf k _ (h.step (by omega) hn h3 h4 (of_decide_eq_true h2)) (by rw [List.length_append, List.length_singleton]; omega)
/-- what stands in the dict of what a hand was told -/
def Told (n m hand : Nat) (kvs : List (NestedKey × V)) (f : List Nat → V) : Prop := ∀ q, OnP n m hand q → valV kvs (pk q) = some (f q) ∧ SignV (f q)
def sp_settledD (G : G3) : Nat → Sp
  | 0 => fun _ _ _ _ => False
  | d + 1 => fun vs H Q _ => ∃ (n m hand : Nat) (a : Addr) (kvs : List (NestedKey × V)) (f : List Nat → V) (p : List Nat) (v : V), vs = [vn n, vn m, .ref a, vn hand, v] ∧ n ≤ 10 ∧ m ≤ 2 ∧ hand < n ∧ DN G H a kvs ∧ Told n m hand kvs f ∧ OnP n m hand p ∧ m + 1 - p.length < d + 1 ∧ rPath p v H ∧ ∀ H', Same H H' → Q (settledM n f hand (m + 1 - p.length) p) H'
abbrev sp_settled (G : G3) : Sp := sp_settledD G 3
/-- settled: slots 0 hands 1 most 2 told 3 hand 4 path 5 signs 6 other -/
def t_settled (spr : Sp) (G : G3) (E : XK) : TS :=
  (tSeq (tIfS (tTest (tOp rEq (tCB (oLen G.K) (tCons (tVar 4) tNil)) (tOp oAdd (tVar 1) (tC (.int 1))))) (tRet (tOp (oIxD G) (tVar 2) (tVar 4))) tNext)
  (tSeq (tAsg (tLst (tCons (tOp (oIxD G) (tVar 2) (tVar 4)) tNil)) (gName 5))
  (tSeq (tFor (iList G.K (tCall (sp_hearers G) [] E0 (tCons (tVar 0) (tCons (tVar 4) tNil)))) (gName 6) (tIfS (tTest (tOp rNe (tVar 6) (tVar 3))) (tDrop (tBM G.K "list" rAppend (tVar 5) (tCons (tCall spr [] E0 (tCons (tVar 0) (tCons (tVar 1) (tCons (tVar 2) (tCons (tVar 3) (tCons (tOp (rCatA G.K) (tVar 4) (tTup (tCons (tVar 6) tNil))) tNil)))))) tNil))) tNext))
  (tRet (tCall (sp_vote G) [] E0 (tCons (tVar 5) tNil))))))
/-- _law_settled: slots 0 _law_hands 1 _law_most 2 _law_told 3 _law_hand 4 _law_path 5 _law_others 6 _law_other -/
def t_l_settled (spr : Sp) (G : G3) (E : XK) : TS :=
  (tSeq (tIfS (tTest (tOp rEq (tCB (oLen G.K) (tCons (tVar 4) tNil)) (tOp oAdd (tVar 1) (tC (.int 1))))) (tRet (tOp (oIxD G) (tVar 2) (tVar 4))) tNext)
  (tSeq (tAsg (tLc (iRng1 (tCons (tVar 0) tNil)) (gName 6) (tAnd (tTest (tOp rNe (tVar 6) (tVar 3))) (tTest (tOp (rIn G.K true) (tVar 6) (tVar 4)))) (tVar 6) [6]) (gName 5))
  (tRet (tCall (sp_vote G) [] E0 (tCons (tOp rCat (tLst (tCons (tOp (oIxD G) (tVar 2) (tVar 4)) tNil)) (tLc (iList G.K (tVar 5)) (gName 6) tYes (tCall spr [] E0 (tCons (tVar 0) (tCons (tVar 1) (tCons (tVar 2) (tCons (tVar 3) (tCons (tOp (rCatA G.K) (tVar 4) (tTup (tCons (tVar 6) tNil))) tNil)))))) [6])) tNil)))))
section
variable {G : G3} {N : List PySem.Str} {vs : List V} {H : Hp} {Q : VK} {E : XK}
theorem told_at {n m hand : Nat} {H : Hp} {a b : Addr} {kvs : List (NestedKey × V)} {f : List Nat → V} {p : List Nat} {Q : VK} (hd : DN G H a kvs) (ht : Told n m hand kvs f) (hp : OnP n m hand p) (hb : H b = some (.tup (p.map vn))) (q : Q (f p) H) : oIxD G (.ref a) (.ref b) H Q :=
  ⟨a, b, pk p, kvs, f p, rfl, rfl, hd, kAt_pk hb, depth_pk p, (ht p hp).1, q⟩
theorem pure_settled (d : Nat) (hN : N.length = 7) (h : sp_settledD G (d + 1) vs H Q E) : t_settled (sp_settledD G d) G E (endsOf Q) (L2.start N vs) H := by
  obtain ⟨n, m, hand, a, kvs, f, p, v, rfl, hn, hm, hh, hd, ht, hp, hdp, ⟨b, rfl, hb⟩, q⟩ := h
  have hlen := hp.len
  rw [start_eq hN]
  got_up
  refine ⟨b, _, rfl, .inr (SqT.of hb), ?_⟩
  got_up
  refine ite2 (fun c => ?_) (fun c => ?_)
  · have c' : p.length = m + 1 := by
      have c2 := V.int.inj (of_decide_eq_true c)
      rw [List.length_map] at c2
      omega
    got_up
    refine told_at hd ht hp hb ?_
    have e := q H (Same.refl _)
    rw [show m + 1 - p.length = 0 by omega] at e
    exact e
  · have c' : ¬ p.length = m + 1 := fun z => c (decide_eq_true (by rw [List.length_map, z]; rfl))
    obtain ⟨k, hk⟩ : ∃ k, m + 1 - p.length = k + 1 := ⟨m - p.length, by omega⟩
    rw [hk] at q
    got_up
    refine told_at hd ht hp hb ?_
    got_up
    refine ⟨by show 1 ≤ sizeLine; decide, fun s ns => ?_⟩
    have s0 : Same H (upd H s (.lst [f p])) := same_new ns
    got_up
    refine ⟨n, p, _, rfl, by omega, ⟨b, rfl, s0 _ _ hb⟩, fun l hs H2 nl s2 hl hh2 => ?_⟩
    got_up
    have hs2 : H2 s = some (.lst [f p]) := s2 _ _ upd_same
    have hls : l ≠ s := fun z => by rw [z, upd_same] at nl; cases nl
    have sH : Same H (off s H2) := fun c o e => by rw [off_ne (ne_of_none e ns)]; exact s2 _ _ (s0 _ _ e)
    refine for_rl (R := rN) (K := G.K) (ds := hearersM n p) (H0 := off s H2) mono_rN (SqL.of (by rw [off_ne hls]; exact hl)) (by exact All2.mono (R := rN) (fun _ _ _ _ _ h => h) (Same.refl _) hh2) (fun pre σ' H' => (∃ v6, σ' = [some (vn n), some (vn m), some (.ref a), some (vn hand), some (.ref b), some (.ref s), v6]) ∧ Same (off s H2) H' ∧ H' s = some (.lst (f p :: ((pre.filter fun o => decide (o ≠ hand)).map fun o => settledM n f hand k (p ++ [o])))))
      ⟨⟨_, rfl⟩, off_same, hs2⟩ (fun _ _ _ p => p.2.1) ?_ ?_
    · rintro pre o post v σ' H3 e ⟨⟨v6, rfl⟩, s3, hz⟩ rfl
      have ho : o ∈ hearersM n p := by rw [e]; simp
      obtain ⟨ho1, ho2⟩ := mem_hearersM.mp ho
      got_up
      by_cases hoh : o = hand
      · subst hoh
        rw [decide_eq_true rfl]
        refine ⟨⟨_, rfl⟩, s3, ?_⟩
        rw [List.filter_append, List.filter_cons_of_neg (by simp)]
        simpa using hz
      · have hne : ¬ vn o = vn hand := fun z => hoh (by injection z with z; omega)
        rw [decide_eq_false hne]
        got_up
        refine ⟨.inl ⟨rfl, _, SqL.of hz⟩, ?_⟩
        got_up
        refine ⟨by show 1 ≤ sizeLine; decide, fun t nt => ?_⟩
        have s4 : Same H3 (upd H3 t (.tup [vn o])) := same_new nt
        refine cat1 (s4 _ _ (s3 _ _ (sH _ _ hb))) upd_same (by omega) fun u H4 s5 hu => ?_
        obtain ⟨d', rfl⟩ : ∃ d', d = d' + 1 := ⟨d - 1, by omega⟩
        have sHH : Same H H4 := ((sH.trans s3).trans s4).trans s5
        have hlen2 : (p ++ [o]).length = p.length + 1 := by rw [List.length_append]; rfl
        refine ⟨n, m, hand, a, kvs, f, p ++ [o], _, rfl, hn, hm, hh, hd.mono sHH, ht, hp.step (by omega) hh ho1 ho2 hoh, by omega, ⟨u, rfl, hu⟩, fun H5 s6 => ?_⟩
        rw [show m + 1 - (p ++ [o]).length = k by omega]
        have hz5 := s6 _ _ (s5 _ _ (s4 _ _ hz))
        have hpre : pre.length ≤ n := by
          have h1 := congrArg List.length e
          rw [List.length_append] at h1
          have h2 := hearersM_len n p
          omega
        refine ⟨s, _, _, rfl, rfl, hz5, ?_, ⟨_, rfl⟩, fun c w e2 => ?_, ?_⟩
        · rw [List.length_cons, List.length_map]
          have := List.length_filter_le (fun o => decide (o ≠ hand)) pre
          exact Nat.lt_of_le_of_lt (show _ ≤ 1000 by omega) (by decide)
        · by_cases hcs : c = s
          · subst hcs
            rw [show off c H2 c = none by unfold off; rw [if_pos rfl]] at e2
            cases e2
          · rw [upd_ne hcs]; exact s6 _ _ (s5 _ _ (s4 _ _ (s3 _ _ e2)))
        · rw [upd_same, List.filter_append, List.filter_cons_of_pos (by simpa using hoh)]
          simp
    · rintro σ' H3 ⟨⟨v6, rfl⟩, s3, hz⟩
      got_up
      refine ⟨s, _, rfl, SqL.of hz, fun v hv => ?_, q H3 (sH.trans s3)⟩
      rcases List.mem_cons.mp hv with rfl | hv
      · exact (ht p hp).2
      · obtain ⟨o, ho, rfl⟩ := List.mem_map.mp hv
        obtain ⟨h1, h2⟩ := List.mem_filter.mp ho
        obtain ⟨h3, h4⟩ := mem_hearersM.mp h1
        exact settledM_sign (S := SignV) (fun ss h => voteM_sign h) hh (fun q hq => (ht q hq).2) k _ (hp.step (by omega) hh h3 h4 (of_decide_eq_true h2)) (by rw [List.length_append, List.length_singleton]; omega)
theorem pure_l_settled (d : Nat) (hN : N.length = 7) (h : sp_settledD G (d + 1) vs H Q E) : t_l_settled (sp_settledD G d) G E (endsOf Q) (L2.start N vs) H := by
  obtain ⟨n, m, hand, a, kvs, f, p, v, rfl, hn, hm, hh, hd, ht, hp, hdp, ⟨b, rfl, hb⟩, q⟩ := h
  have hlen := hp.len
  rw [start_eq hN]
  got_up
  refine ⟨b, _, rfl, .inr (SqT.of hb), ?_⟩
  got_up
  refine ite2 (fun c => ?_) (fun c => ?_)
  · have c' : p.length = m + 1 := by
      have c2 := V.int.inj (of_decide_eq_true c)
      rw [List.length_map] at c2
      omega
    got_up
    refine told_at hd ht hp hb ?_
    have e := q H (Same.refl _)
    rw [show m + 1 - p.length = 0 by omega] at e
    exact e
  · have c' : ¬ p.length = m + 1 := fun z => c (decide_eq_true (by rw [List.length_map, z]; rfl))
    obtain ⟨k, hk⟩ : ∃ k, m + 1 - p.length = k + 1 := ⟨m - p.length, by omega⟩
    rw [hk] at q
    obtain ⟨d', rfl⟩ : ∃ d', d = d' + 1 := ⟨d - 1, by omega⟩
    got_up
    refine lc_rg (n := n) (S := rN) (by omega) monoT_rN (fun o => decide (o ∉ p) && decide (o ≠ hand)) (fun o => o) ?_ ?_
    · intro o H' ho sm Y N' hY hN'
      got_up
      by_cases hoh : o = hand
      · subst hoh
        rw [decide_eq_true rfl]
        exact hN' (by simp) _ (Same.refl _)
      · have hne : ¬ vn o = vn hand := fun z => hoh (by injection z with z; omega)
        rw [decide_eq_false hne]
        got_up
        refine ⟨b, _, rfl, .inr (SqT.of (sm _ _ hb)), rfl, flat_vn p, ?_⟩
        have e1 := inV_vn o p
        by_cases hop : o ∈ p
        · rw [e1, decide_eq_true hop]
          got_up
          exact hN' (by simp [hop]) _ (Same.refl _)
        · rw [e1, decide_eq_false hop]
          got_up
          exact hY (by simp [hop, hoh]) _ _ (Same.refl _) rfl
    · intro l ys H2 nl s2 hl hall
      rw [List.map_id'] at hall
      have eo : ((List.range n).filter fun o => decide (o ∉ p) && decide (o ≠ hand)) = (hearersM n p).filter fun o => decide (o ≠ hand) := by
        unfold hearersM
        rw [List.filter_filter]
        refine List.filter_congr fun x _ => ?_
        exact Bool.and_comm _ _
      rw [eo] at hall
      got_up
      refine told_at (hd.mono s2) ht hp (s2 _ _ hb) ?_
      got_up
      refine ⟨by show 1 ≤ sizeLine; decide, fun s ns => ?_⟩
      have s3 : Same H2 (upd H2 s (.lst [f p])) := same_new ns
      got_up
      refine lc_rl (R := rN) (S := rV) (ds := (hearersM n p).filter fun o => decide (o ≠ hand)) mono_rN (SqL.of (s3 _ _ hl)) (All2.mono mono_rN s3 hall) monoT_rV (fun _ => true) (fun o => settledM n f hand k (p ++ [o])) ?_ ?_ ?_
      · have h1 := List.length_filter_le (fun o => decide (o ≠ hand)) (hearersM n p)
        have h2 := hearersM_len n p
        omega
      · rintro o v H3 ho s4 rfl Y N' hY hN'
        obtain ⟨h1, h2⟩ := List.mem_filter.mp ho
        obtain ⟨h3, h4⟩ := mem_hearersM.mp h1
        got_up
        refine ⟨by show 1 ≤ sizeLine; decide, fun t nt => ?_⟩
        have s5 : Same H3 (upd H3 t (.tup [vn o])) := same_new nt
        refine cat1 (s5 _ _ (s4 _ _ (s3 _ _ (s2 _ _ hb)))) upd_same (by omega) fun u H4 s6 hu => ?_
        have sHH : Same H H4 := (((s2.trans s3).trans s4).trans s5).trans s6
        have hlen2 : (p ++ [o]).length = p.length + 1 := by rw [List.length_append]; rfl
        refine ⟨n, m, hand, a, kvs, f, p ++ [o], _, rfl, hn, hm, hh, hd.mono sHH, ht, hp.step (by omega) hh h3 h4 (of_decide_eq_true h2), by omega, ⟨u, rfl, hu⟩, fun H5 s7 => ?_⟩
        rw [show m + 1 - (p ++ [o]).length = k by omega]
        exact hY rfl _ _ ((s5.trans s6).trans s7) rfl
      · intro l2 ys2 H3 nl2 s4 hl2 hall2
        rw [filter_tt] at hall2
        have ey := of_rV hall2
        subst ey
        got_up
        refine ⟨s, l2, _, _, rfl, rfl, s4 _ _ upd_same, hl2, ?_, fun r nr => ?_⟩
        · rw [List.length_map]
          have h1 := List.length_filter_le (fun o => decide (o ≠ hand)) (hearersM n p)
          have h2 := hearersM_len n p
          exact line8 (by show 1 + _ ≤ 100000; omega)
        · refine ⟨r, _, rfl, SqL.of upd_same, fun v hv => ?_, q _ (((s2.trans s3).trans s4).trans (same_new nr))⟩
          rcases List.mem_cons.mp hv with rfl | hv
          · exact (ht p hp).2
          · obtain ⟨o, ho, rfl⟩ := List.mem_map.mp hv
            obtain ⟨h1, h2⟩ := List.mem_filter.mp ho
            obtain ⟨h3, h4⟩ := mem_hearersM.mp h1
            exact settledM_sign (S := SignV) (fun ss h => voteM_sign h) hh (fun q hq => (ht q hq).2) k _ (hp.step (by omega) hh h3 h4 (of_decide_eq_true h2)) (by rw [List.length_append, List.length_singleton]; omega)
end
end LT

set_option Elab.async false
set_option linter.all false
set_option maxRecDepth 100000
set_option maxHeartbeats 4000000
namespace LT
open PySem PySem.Spec PyProof.Rows L2
local macro_rules | `(tactic| got_up) => `(tactic| repeat (first
  | refine ⟨_, rfl, ?_⟩
  | refine ⟨_, _, rfl, rfl, ?_⟩
  | refine ⟨rfl, ?_⟩
  | refine ⟨_, _, rfl, ?_⟩
  | refine ⟨(.inl ⟨by decide, by decide⟩ : CMul _ _), ?_⟩
  | refine ⟨(.inr ⟨by decide, by decide⟩ : CMul _ _), ?_⟩
  | refine ⟨(.inl ⟨by omega, by omega⟩ : CMul _ _), ?_⟩
  | refine ⟨(.inr ⟨by omega, by omega⟩ : CMul _ _), ?_⟩
  | refine ⟨(by show (0 : Int) < _; first | decide | omega), ?_⟩
  | refine ⟨(⟨by first | decide | omega, by first | decide | omega⟩ : CDiv _ _), ?_⟩))
/-! ### keys that hash apart -/
def hp (p : List Nat) : Int := reduceHash (Builtin.Tuple.tupleHashOf (p.map fun (n : Nat) => hashInt (n : Int)))
theorem hashes_nums (w : World) : ∀ p : List Nat, NestedKey.hashes w (p.map num) = p.map fun (n : Nat) => hashInt (n : Int)
  | [] => by rw [List.map_nil, NestedKey.hashes]; rfl
  | a :: p => by
    rw [List.map_cons, NestedKey.hashes, hashes_nums w p, List.map_cons]
    unfold num
    rw [NestedKey.hash]
theorem hash_pk (w : World) (p : List Nat) : (pk p).hash w = hp p := by
  unfold pk hp
  rw [NestedKey.hash, hashes_nums]
theorem hp_apart : ((pathsM 10 2).map hp).Nodup := by decide +kernel
theorem inj_of_nodup {α β : Type} {f : α → β} : ∀ {l : List α}, (l.map f).Nodup → ∀ {a b : α}, a ∈ l → b ∈ l → f a = f b → a = b
  | [], _, a, b, ha, _, _ => by cases ha
  | c :: l, h, a, b, ha, hb, e => by
    rw [List.map_cons, List.nodup_cons] at h
    rcases List.mem_cons.mp ha with rfl | ha'
    · rcases List.mem_cons.mp hb with rfl | hb'
      · rfl
      · exact absurd (List.mem_map.mpr ⟨b, hb', e.symm⟩) h.1
    · rcases List.mem_cons.mp hb with rfl | hb'
      · exact absurd (List.mem_map.mpr ⟨a, ha', e⟩) h.1
      · exact inj_of_nodup h.2 ha' hb' e
theorem itM_up {n N : Nat} (h : n ≤ N) : ∀ {k : Nat} {p : List Nat}, p ∈ itM n k → p ∈ itM N k
  | 0, p, hp => hp
  | k + 1, p, hp => by
    obtain ⟨q, hq, h2⟩ := List.mem_flatMap.mp hp
    obtain ⟨o, ho, rfl⟩ := List.mem_map.mp h2
    obtain ⟨h3, h4⟩ := mem_hearersM.mp ho
    exact List.mem_flatMap.mpr ⟨q, itM_up h hq, List.mem_map.mpr ⟨o, mem_hearersM.mpr ⟨by omega, h4⟩, rfl⟩⟩
theorem path_up {n m : Nat} {p : List Nat} (hn : n ≤ 10) (hm : m ≤ 2) (h : p ∈ pathsM n m) : p ∈ pathsM 10 2 := by
  obtain ⟨k, h1, h2, h3⟩ := mem_pathsM.mp h
  exact mem_pathsM.mpr ⟨k, by omega, by omega, itM_up hn h3⟩
theorem nodup_map_on {α β : Type} {f : α → β} : ∀ {l : List α}, l.Nodup → (∀ a ∈ l, ∀ b ∈ l, f a = f b → a = b) → (l.map f).Nodup
  | [], _, _ => by simp
  | c :: l, h, hi => by
    rw [List.nodup_cons] at h
    rw [List.map_cons, List.nodup_cons]
    refine ⟨fun z => ?_, nodup_map_on h.2 fun a ha b hb => hi a (by simp [ha]) b (by simp [hb])⟩
    obtain ⟨b, hb, e⟩ := List.mem_map.mp z
    have := hi b (by simp [hb]) c (by simp) e
    exact h.1 (this ▸ hb)
theorem apart_paths {w : World} {n m : Nat} {kvs : List (NestedKey × V)} (hn : n ≤ 10) (hm : m ≤ 2) (nd : (kvs.map (·.1)).Nodup) (hk : ∀ x ∈ kvs, ∃ p, p ∈ pathsM n m ∧ x.1 = pk p) : Apart w kvs := by
  have e : (kvs.map fun x => x.1.hash w) = (kvs.map (·.1)).map fun k => k.hash w := by rw [List.map_map]; rfl
  unfold Apart
  rw [e]
  refine nodup_map_on nd fun a ha b hb e => ?_
  obtain ⟨x, hx, rfl⟩ := List.mem_map.mp ha
  obtain ⟨y, hy, rfl⟩ := List.mem_map.mp hb
  obtain ⟨p, hp1, e1⟩ := hk x hx
  obtain ⟨q, hq1, e2⟩ := hk y hy
  have e : x.1.hash w = y.1.hash w := e
  show x.1 = y.1
  rw [e1, e2] at e ⊢
  rw [hash_pk, hash_pk] at e
  rw [inj_of_nodup hp_apart (path_up hn hm hp1) (path_up hn hm hq1) e]
/-! ### lists -/
theorem all2_of {α : Type} {R : α → V → Hp → Prop} {P : α → Prop} {H : Hp} : ∀ {vs : List V}, (∀ v ∈ vs, ∃ d, P d ∧ R d v H) → ∃ ds, All2 R ds vs H ∧ ∀ d ∈ ds, P d
  | [], _ => ⟨[], .nil, by simp⟩
  | v :: vs, h => by
    obtain ⟨d, h1, h2⟩ := h v (by simp)
    obtain ⟨ds, h3, h4⟩ := all2_of (R := R) (P := P) (H := H) (vs := vs) fun u hu => h u (by simp [hu])
    refine ⟨d :: ds, .cons h2 h3, fun x hx => ?_⟩
    rcases List.mem_cons.mp hx with rfl | hx
    · exact h1
    · exact h4 x hx
theorem cut_mem {xs : List V} {lo hi : Option Int} {v : V} (h : v ∈ L2.cutV xs lo hi) : v ∈ xs := by
  unfold L2.cutV at h
  exact List.mem_of_mem_drop (List.mem_of_mem_take h)
theorem atI_mod {ns : List Int} {k : Int} (h : 0 < ns.length) : ∃ z, atI (ns.map V.int) (k % (ns.length : Int)) = some (.int z) := by
  have h1 : 0 ≤ k % (ns.length : Int) := Int.emod_nonneg _ (by omega)
  have h2 : k % (ns.length : Int) < (ns.length : Int) := Int.emod_lt_of_pos _ (by omega)
  obtain ⟨j, hj⟩ := Int.eq_ofNat_of_zero_le h1
  rw [hj] at h2 ⊢
  have h3 : j < ns.length := by omega
  exact ⟨ns[j], atI_nat (by simp [h3])⟩
theorem at_mem {sg : List V} {i : Int} (h1 : 0 ≤ i) (h2 : i < (sg.length : Int)) : ∃ v, atI sg i = some v ∧ v ∈ sg := by
  obtain ⟨j, rfl⟩ := Int.eq_ofNat_of_zero_le h1
  have h3 : j < sg.length := by omega
  exact ⟨sg[j], atI_nat (by simp [h3]), by simp⟩
/-- the entries are of paths that the hand isn't on, their values signs or None -/
def Ents (n m hand : Nat) (kvs : List (NestedKey × V)) : Prop := ∀ x ∈ kvs, ∃ p, OnP n m hand p ∧ x.1 = pk p ∧ SignG x.2
theorem Ents.put {n m hand : Nat} {kvs : List (NestedKey × V)} {p : List Nat} {v : V} (h : Ents n m hand kvs) (hp : OnP n m hand p) (hv : SignG v) : Ents n m hand (putK kvs (pk p) v) := by
  intro x hx
  unfold putK at hx
  split at hx
  · obtain ⟨y, hy, e⟩ := List.mem_map.mp hx
    by_cases hk : y.1 = pk p
    · rw [if_pos hk] at e
      subst e
      exact ⟨p, hp, hk, hv⟩
    · rw [if_neg hk] at e
      subst e
      exact h y hy
  · rcases List.mem_append.mp hx with h' | h'
    · exact h x h'
    · rw [List.mem_singleton.mp h']
      exact ⟨p, hp, rfl, hv⟩
theorem valV_mem {κ : Type} [DecidableEq κ] {kvs : List (κ × V)} {k : κ} {v : V} (h : valV kvs k = some v) : ∃ x ∈ kvs, x.1 = k ∧ x.2 = v := by
  unfold valV at h
  obtain ⟨y, hy, e⟩ := Option.map_eq_some_iff.mp h
  exact ⟨y, List.mem_of_find?_eq_some hy, by simpa using List.find?_some hy, e⟩
/-- what is taken of a dict with all of these -/
def fOf (kvs : List (NestedKey × V)) (p : List Nat) : V := (valV kvs (pk p)).getD .non
theorem told_of {n m hand : Nat} {kvs : List (NestedKey × V)} (h : Ents n m hand kvs) (ha : ∀ p, OnP n m hand p → (valV kvs (pk p)).isSome = true) : Told n m hand kvs (fOf kvs) := fun p hp => by
  obtain ⟨v, hv⟩ := Option.isSome_iff_exists.mp (ha p hp)
  obtain ⟨x, hx, e1, e2⟩ := valV_mem hv
  obtain ⟨_, _, _, hs⟩ := h x hx
  unfold fOf
  rw [hv]
  exact ⟨rfl, by rw [← e2]; exact hs.v⟩
def sp_l_drawn (G : G3) : Sp := fun vs H Q _ => ∃ (a : Addr) (ns : List Int) (n m hand : Nat), vs = [.ref a, vn n, vn m, vn hand] ∧ SqL G.K H a (ns.map V.int) ∧ 0 < ns.length ∧ ns.length ≤ 63 ∧ 2 ≤ n ∧ n ≤ 10 ∧ m ≤ 2 ∧ hand < n ∧
  ∀ (d : Addr) (kvs : List (NestedKey × V)) (H' : Hp), Same H H' → DW' G H' d kvs → kvs.length ≤ 300 → Ents n m hand kvs → (∀ p, OnP n m hand p → (valV kvs (pk p)).isSome = true) → Q (.ref d) H'
/-- _law_drawn: slots 0 _law_script 1 _law_hands 2 _law_most 3 _law_hand 4 _law_signs_here 5 _law_few 6 _law_found 7 _law_k 8 _law_size 9 _law_path 10 _law_cell 11 _law_mixed -/
def t_l_drawn (G : G3) (E : XK) : TS :=
  (tSeq (tAsg (tOp rCat (tCall (sp_l_signs G) [] E0 (tCons (tCall (sp_l_cell_at G) [] E0 (tCons (tVar 0) (tCons (tC (.int 1)) tNil))) tNil)) (tLst (tCons (tC .non) tNil))) (gName 4))
  (tSeq (tAsg (tOp oAdd (tC (.int 2)) (tOp oMod (tCall (sp_l_cell_at G) [] E0 (tCons (tVar 0) (tCons (tC (.int 2)) tNil))) (tC (.int 4)))) (gName 5))
  (tSeq (tAsg (tDNew G) (gName 6))
  (tSeq (tAsg (tC (.int 0)) (gName 7))
  (tSeq (tFor (iRng2 (tCons (tC (.int 1)) (tCons (tOp oAdd (tVar 2) (tC (.int 2))) tNil))) (gName 8) (tFor (iList G.K (tCall (sp_l_paths G) [] E0 (tCons (tVar 1) (tCons (tVar 8) tNil)))) (gName 9) (tSeq (tAsg (tOp oAdd (tVar 7) (tC (.int 1))) (gName 7))
  (tIfS (tTest (tOp (rIn G.K true) (tVar 3) (tVar 9))) (tSeq (tAsg (tOp (rIxL G.K) (tVar 0) (tOp oMod (tVar 7) (tCB (oLen G.K) (tCons (tVar 0) tNil)))) (gName 10))
  (tSeq (tAsg (tOp oMod (tOp oAdd (tOp oAdd (tVar 10) (tOp oMul (tC (.int 7919)) (tVar 7))) (tOp oMul (tOp oMul (tCB (oLen G.K) (tCons (tVar 0) tNil)) (tVar 7)) (tVar 7))) (tC (.int 2147483647))) (gName 11))
  (tSeq (tAsg (tOp oDiv (tOp oMod (tOp oMul (tOp oMod (tOp oMul (tVar 11) (tVar 11)) (tC (.int 2147483629))) (tC (.int 48271))) (tC (.int 2147483647))) (tC (.int 7))) (gName 11))
  (Evl.tCut (tIfS (tTest (tOp rEq (tOp oMod (tOp oDiv (tCall (sp_l_cell_at G) [] E0 (tCons (tVar 0) (tCons (tC (.int 2)) tNil))) (tC (.int 4))) (tC (.int 2))) (tC (.int 1)))) (tAsg (tCB oMax2 (tCons (tC (.int 0)) (tCons (tOp oSub (tOp oMod (tVar 11) (tC (.int 16))) (tC (.int 9))) tNil))) (gName 11)) tNext)
  (tAsg (tOp (rIxL G.K) (tVar 4) (tOp oMod (tVar 11) (tVar 5))) (gSub (tVar 6) (tVar 9) (oSetD G))))))) tNext))))
  (tRet (tVar 6)))))))
/-- law: slots 0 _law_script 1 _law_hands 2 _law_most 3 _law_hand 4 _law_told 5 _law_kept 6 _law_listed 7 _law_turn 8 _law_path 9 _law_due -/
def t_law03 (G : G3) (E : XK) : TS :=
  (tSeq (tIfS (tTest (tOp rEq (tCB (oLen G.K) (tCons (tVar 0) tNil)) (tC (.int 0)))) (tRet (tC (.bl true))) tNext)
  (tSeq (tAsg (tCall (sp_l_table G) [] E0 (tCons (tCall (sp_l_cell_at G) [] E0 (tCons (tVar 0) (tCons (tC (.int 0)) tNil))) tNil)) (gTup G.K 2 (gCons (gName 1) (gCons (gName 2) gNil))))
  (tSeq (tAsg (tOp oAdd (tC (.int 1)) (tOp oMod (tCall (sp_l_cell_at G) [] E0 (tCons (tVar 0) (tCons (tC (.int 3)) tNil))) (tOp oSub (tVar 1) (tC (.int 1))))) (gName 3))
  (tSeq (tAsg (tCall (sp_l_drawn G) [] E0 (tCons (tVar 0) (tCons (tVar 1) (tCons (tVar 2) (tCons (tVar 3) tNil))))) (gName 4))
  (tSeq (tAsg (tCB (oDictD G) (tCons (tVar 4) tNil)) (gName 5))
  (tSeq (tAsg (tCB (oListD G) (tCons (tVar 5) tNil)) (gName 6))
  (tSeq (tAsg (tOp oMod (tCall (sp_l_cell_at G) [] E0 (tCons (tVar 0) (tCons (tC (.int 4)) tNil))) (tCB (oLen G.K) (tCons (tVar 6) tNil))) (gName 7))
  (tSeq (tAsg (tOp rCat (tSl (rSlL G.K) (tVar 6) (tPart (tVar 7)) tNoPart) (tSl (rSlL G.K) (tVar 6) tNoPart (tPart (tVar 7)))) (gName 6))
  (Evl.tCut (tIfS (tTest (tOp oGt (tVar 1) (tC (.int 6)))) (tAsg (tOp rCat (tSl (rSlL G.K) (tVar 6) tNoPart (tPart (tC (.int 12)))) (tLst (tCons (tTup (tCons (tC (.int 0)) tNil)) tNil))) (gName 6)) tNext)
  (tSeq (tFor (iList G.K (tVar 6)) (gName 8) (tSeq (tAsg (tCall (sp_settled G) [] E0 (tCons (tVar 1) (tCons (tVar 2) (tCons (tVar 5) (tCons (tVar 3) (tCons (tVar 8) tNil)))))) (gName 9))
  (tIfS (tOr (tNot (tB (tCall (sp_l_same G) [] E0 (tCons (tCall (sp_settled G) [] E0 (tCons (tVar 1) (tCons (tVar 2) (tCons (tVar 4) (tCons (tVar 3) (tCons (tVar 8) tNil)))))) (tCons (tVar 9) tNil))))) (tTest (tOp rNe (tCB (oLenD G) (tCons (tVar 4) tNil)) (tCB (oLenD G) (tCons (tVar 5) tNil))))) (tRet (tC (.bl false))) tNext)))
  (tRet (tOp (oEqD G) (tVar 4) (tVar 5)))))))))))))
section
variable {G : G3} {N : List PySem.Str} {vs : List V} {H : Hp} {Q : VK} {E : XK}
theorem signs5 {σ : L2.St} {i k : Nat} {a : Addr} {ns : List Int} (hv : ∀ (H' : Hp) (Q' : VK), Q' (.ref a) H' → tVar i σ H' Q') (hs : SqL G.K H a (ns.map V.int))
    (q : ∀ (r : Addr) (sg : List V) (H' : Hp), H r = none → Same H H' → H' r = some (.lst sg) → sg.length = 5 → (∀ v ∈ sg, SignG v) → Q (.ref r) H') :
    tOp rCat (tCall (sp_l_signs G) [] E0 (tCons (tCall (sp_l_cell_at G) [] E0 (tCons (tVar i) (tCons (tC (.int (k : Int))) tNil))) tNil)) (tLst (tCons (tC .non) tNil)) σ H Q := by
  refine hv _ _ ?_
  got_up
  refine ⟨a, ns, k, rfl, hs, ?_⟩
  got_up
  intro l ss H1 nl s1 h4 hg hl1
  refine ⟨by show 1 ≤ sizeLine; decide, fun p np => ?_⟩
  have hpl : l ≠ p := ne_of_none hl1 np
  refine ⟨l, p, _, _, rfl, rfl, by rw [upd_ne hpl]; exact hl1, upd_same, by simp [h4]; decide, fun r nr => ?_⟩
  have s2 : Same H1 (upd H1 p (.lst [.non])) := same_new np
  refine q r _ _ (s1.free (s2.free nr)) ((s1.trans s2).trans (same_new nr)) upd_same (by simp [h4]) fun v hv => ?_
  rcases List.mem_append.mp hv with h | h
  · obtain ⟨s, h1, rfl⟩ := List.mem_map.mp h
    exact .inr ⟨s, rfl, hg s h1⟩
  · exact .inl (List.mem_singleton.mp h)
theorem pure_l_drawn (hN : N.length = 12) (h : sp_l_drawn G vs H Q E) : t_l_drawn G E (endsOf Q) (L2.start N vs) H := by
  obtain ⟨a, ns, n, m, hand, rfl, hs, hns, hn63, hn2, hn, hm, hh, q⟩ := h
  rw [start_eq hN]
  refine signs5 (k := 1) (fun _ _ q => ⟨_, rfl, q⟩) hs fun r sg H1 nr s1 hr hl5 hgg => ?_
  have hs1 : SqL G.K H1 a (ns.map V.int) := s1.seq hs
  got_up
  refine ⟨a, ns, 2, rfl, hs1, ?_⟩
  obtain ⟨few, hfew⟩ : ∃ few, few = 2 + cellM ns 2 % 4 := ⟨_, rfl⟩
  have hf1 : 0 < few := by have := Int.emod_nonneg (cellM ns 2) (show (4 : Int) ≠ 0 by decide); omega
  have hf2 : few ≤ 5 := by have := Int.emod_lt_of_pos (cellM ns 2) (show (0 : Int) < 4 by decide); omega
  got_up
  simp only [← hfew]
  intro d H2 nd s2 fr2 hd2
  have hlenI : ((ns.map V.int).length : Int) = (ns.length : Int) := by rw [List.length_map]
  got_up
  refine for_rg2 (lo := 1) (m := m + 1) (by omega) ⟨by omega, by omega⟩ (fun i σ' H' => (∃ v7 v8 v9 v10 v11, σ' = [some (.ref a), some (vn n), some (vn m), some (vn hand), some (.ref r), some (.int few), some (.ref d), some (.int v7), v8, v9, v10, v11] ∧ 0 ≤ v7 ∧ v7 ≤ i * 100) ∧ Same H1 H' ∧ ∃ kvs, DW' G H' d kvs ∧ kvs.length ≤ i * 100 ∧ Ents n m hand kvs ∧ ∀ k, k < i → ∀ p ∈ pathsOf n (k + 1), hand ∉ p → (valV kvs (pk p)).isSome = true)
    ⟨⟨0, none, none, none, none, rfl, by omega, by omega⟩, s2, [], hd2, by simp, fun x hx => by simp at hx, fun k hk => absurd hk (Nat.not_lt_zero _)⟩ ?_ ?_
  · rintro i σ' H3 hi ⟨⟨v7, v8, v9, v10, v11, rfl, hv7, hv7'⟩, s3, kvs, hd, hl, he, hall⟩
    got_up
    refine ⟨hn2, hn, by omega, by omega, fun l ys H4 nl s4 hly hys => ?_⟩
    have hcnt : (pathsOf n (1 + i)).length ≤ 100 := pathsOf_count hn (by omega)
    have hld : l ≠ d := fun z => by
      obtain ⟨o, ho⟩ := hd.there
      rw [z, ho] at nl; cases nl
    have hd4 := hd.mono s4
    got_up
    refine for_rl (R := rPath) (K := G.K) (ds := pathsOf n (1 + i)) (H0 := off d H4) mono_rPath (SqL.of (by rw [off_ne hld]; exact hly)) ?_ (fun pre σ' H' => (∃ v7 v9 v10 v11, σ' = [some (.ref a), some (vn n), some (vn m), some (vn hand), some (.ref r), some (.int few), some (.ref d), some (.int v7), some (vn (1 + i)), v9, v10, v11] ∧ 0 ≤ v7 ∧ v7 ≤ i * 100 + pre.length) ∧ Same (off d H4) H' ∧ ∃ kvs, DW' G H' d kvs ∧ kvs.length ≤ i * 100 + pre.length ∧ Ents n m hand kvs ∧ (∀ k, k < i → ∀ p ∈ pathsOf n (k + 1), hand ∉ p → (valV kvs (pk p)).isSome = true) ∧ ∀ p ∈ pre, hand ∉ p → (valV kvs (pk p)).isSome = true)
      ⟨⟨v7, v9, v10, v11, rfl, hv7, by simpa using hv7'⟩, off_same, kvs, hd4, by simpa using hl, he, hall, fun p hp => by simp at hp⟩ (fun _ _ _ p => p.2.1) ?_ ?_
    · refine Paired.mapP hys fun p v r => monoT_rPath p v _ _ (fun b xs e => ?_) r
      rw [off_ne (fun z => hd4.ne e (fun φ => by simp) z.symm)]
      exact e
    · rintro pre p post v σ' H5 e ⟨⟨v7', v9', v10', v11', rfl, hw7, hw7'⟩, s5, kvs5, hd5, hl5', he5, hall5, hpre5⟩ ⟨b, rfl, hb⟩
      have hp : p ∈ pathsOf n (1 + i) := by rw [e]; simp
      have hpl : pre.length < 100 := by
        have h1 := congrArg List.length e
        rw [List.length_append, List.length_cons] at h1
        omega
      have sH : Same H1 (off d H4) := fun c o e => by
        rw [off_ne (ne_of_none e nd)]
        exact s4 _ _ (s3 _ _ e)
      have sH5 : Same H1 H5 := sH.trans s5
      have hs5 : SqL G.K H5 a (ns.map V.int) := sH5.seq hs1
      have hr5 : H5 r = some (.lst sg) := sH5 _ _ hr
      got_up
      refine ⟨b, _, rfl, .inr (SqT.of hb), rfl, flat_vn p, ?_⟩
      have e1 := inV_vn hand p
      by_cases hop : hand ∈ p
      · rw [e1, decide_eq_true hop]
        got_up
        refine ⟨⟨_, _, _, _, rfl, by omega, by rw [List.length_append, List.length_singleton]; omega⟩, s5, kvs5, hd5, by rw [List.length_append]; omega, he5, hall5, fun p' hp' hn' => ?_⟩
        rcases List.mem_append.mp hp' with h | h
        · exact hpre5 p' h hn'
        · rw [List.mem_singleton.mp h] at hn'
          exact absurd hop hn'
      · rw [e1, decide_eq_false hop]
        got_up
        refine ⟨a, _, rfl, .inl hs5, ?_⟩
        got_up
        rw [hlenI]
        obtain ⟨z, hz⟩ := atI_mod (k := v7' + 1) hns
        refine ⟨a, _, _, _, rfl, rfl, hs5, hz, ?_⟩
        got_up
        refine ⟨a, _, rfl, .inl hs5, ?_⟩
        got_up
        rw [hlenI]
        obtain ⟨mx, hmx⟩ : ∃ mx, mx = (z + 7919 * (v7' + 1) + (ns.length : Int) * (v7' + 1) * (v7' + 1)) % 2147483647 := ⟨_, rfl⟩
        have hmx1 : 0 ≤ mx := by rw [hmx]; exact Int.emod_nonneg _ (by decide)
        have hmx2 : mx < 2147483647 := by rw [hmx]; exact Int.emod_lt_of_pos _ (by decide)
        got_up
        simp only [← hmx]
        got_up
        refine ⟨fun σ' H' => H' = H5 ∧ ∃ v11, σ' = [some (.ref a), some (vn n), some (vn m), some (vn hand), some (.ref r), some (.int few), some (.ref d), some (.int (v7' + 1)), some (vn (1 + i)), some (.ref b), some (.int z), some (.int v11)], ?_, ?_⟩
        · got_up
          refine ⟨a, ns, 2, rfl, hs5, ?_⟩
          got_up
          refine ite2 (fun c => ?_) (fun c => ?_)
          · got_up
            exact ⟨_, rfl⟩
          · exact ⟨rfl, _, rfl⟩
        · rintro σ' H6 ⟨rfl, w11, rfl⟩
          have hz1 : 0 ≤ w11 % few := Int.emod_nonneg _ (by omega)
          have hz2 : w11 % few < few := Int.emod_lt_of_pos _ hf1
          obtain ⟨sv, hsv, hsm⟩ := at_mem (sg := sg) hz1 (by omega)
          got_up
          refine ⟨r, sg, _, sv, rfl, rfl, SqL.of hr5, hsv, ?_⟩
          got_up
          have hop2 : OnP n m hand p := by
            refine ⟨mem_pathsM.mpr ⟨i, by omega, ?_⟩, hop⟩
            unfold pathsOf at hp
            split at hp
            · rename_i h
              rw [show 1 + i - 1 = i by omega] at hp
              exact ⟨by omega, hp⟩
            · cases hp
          refine ⟨d, b, pk p, kvs5, rfl, rfl, hd5, kAt_pk hb, depth_pk p, Nat.lt_of_le_of_lt (show _ ≤ 1000 by omega) (by decide), fun H7 xs e7 hd7 => ?_⟩
          have hgood : SignG sv := hgg sv hsm
          refine ⟨⟨_, _, _, _, rfl, by omega, by rw [List.length_append, List.length_singleton]; omega⟩, fun c o ec => ?_, _, hd7, ?_, he5.put hop2 hgood, ?_, ?_⟩
          · by_cases hcd : c = d
            · subst hcd
              rw [show off c H4 c = none by unfold off; rw [if_pos rfl]] at ec
              cases ec
            · rw [e7, upd_ne hcd]; exact s5 _ _ ec
          · have := length_putK kvs5 (pk p) sv
            rw [List.length_append, List.length_singleton]
            omega
          · intro k hk p' hp' hn'
            rw [valV_put]
            split
            · rfl
            · exact hall5 k hk p' hp' hn'
          · intro p' hp' hn'
            rw [valV_put]
            split
            · rfl
            · rename_i hne
              rcases List.mem_append.mp hp' with h | h
              · exact hpre5 p' h hn'
              · rw [List.mem_singleton.mp h] at hne
                exact absurd rfl hne
    · rintro σ' H5 ⟨⟨v7', v9', v10', v11', rfl, hw7, hw7'⟩, s5, kvs5, hd5, hl5', he5, hall5, hpre5⟩
      refine ⟨⟨_, _, _, _, _, rfl, by omega, by omega⟩, fun c o e => ?_, kvs5, hd5, by omega, he5, fun k hk p hp hn' => ?_⟩
      · refine s5 _ _ ?_
        rw [off_ne (ne_of_none e nd)]
        exact s4 _ _ (s3 _ _ e)
      · rcases Nat.lt_succ_iff_lt_or_eq.mp hk with h | h
        · exact hall5 k h p hp hn'
        · subst h
          exact hpre5 p (by rw [Nat.add_comm]; exact hp) hn'
  · rintro σ' H3 ⟨⟨v7, v8, v9, v10, v11, rfl, hv7, hv7'⟩, s3, kvs, hd, hl, he, hall⟩
    got_up
    refine q d kvs H3 (s1.trans s3) hd (by omega) he fun p hp => ?_
    obtain ⟨k, h1, h2, h3⟩ := mem_pathsM.mp hp.1
    refine hall k (by omega) p ?_ hp.2
    unfold pathsOf
    rw [if_pos h2]
    exact h3
theorem pure_law03 (hN : N.length = 10) (h : sp_law G vs H Q E) : t_law03 G E (endsOf Q) (L2.start N vs) H := by
  obtain ⟨a, ns, rfl, hs, hl, q⟩ := h
  rw [start_eq hN]
  got_up
  refine ⟨a, _, rfl, .inl hs, ?_⟩
  got_up
  refine ite2 (fun c => ?_) (fun c => ?_)
  · got_up
    exact q _
  have hns : 0 < ns.length := by
    rcases Nat.eq_zero_or_pos ns.length with h | h
    · exact absurd (decide_eq_true (by rw [List.length_map, h]; rfl)) c
    · exact h
  got_up
  refine ⟨a, ns, 0, rfl, hs, ?_⟩
  got_up
  intro n m t H1 hn2 hm hn hmn s1 ht
  got_up
  refine ⟨t, _, rfl, SqT.of ht, rfl, ?_⟩
  got_up
  refine ⟨a, ns, 3, rfl, s1.seq hs, ?_⟩
  got_up
  obtain ⟨hand, hhand, hh1, hh2⟩ : ∃ hand : Nat, 1 + cellM ns 3 % ((n : Int) - 1) = (hand : Int) ∧ 1 ≤ hand ∧ hand < n := by
    have h1 : 0 ≤ cellM ns 3 % ((n : Int) - 1) := Int.emod_nonneg _ (by omega)
    have h2 : cellM ns 3 % ((n : Int) - 1) < (n : Int) - 1 := Int.emod_lt_of_pos _ (by omega)
    obtain ⟨j, hj⟩ := Int.eq_ofNat_of_zero_le h1
    exact ⟨1 + j, by omega, by omega, by omega⟩
  simp only [hhand]
  refine ⟨a, ns, n, m, hand, rfl, s1.seq hs, hns, hl, hn2, hn, hm, hh2, fun d kvs H2 s2 hd hk300 he hall => ?_⟩
  have hp0 : OnP n m hand [0] := ⟨mem_pathsM.mpr ⟨0, by omega, by omega, List.mem_singleton.mpr rfl⟩, by simp; omega⟩
  have htold := told_of he hall
  have hkn : 0 < kvs.length := by
    have h1 := hall [0] hp0
    cases kvs with
    | nil => exact absurd h1 (by simp [valV_nil])
    | cons x l => simp
  have hnd : (kvs.map (·.1)).Nodup := hd.2.2.1
  got_up
  refine ⟨d, kvs, rfl, hd.rd, apart_paths hn hm hnd (fun x hx => ?_), fun k H3 nk s3 fr3 hk => ?_⟩
  · obtain ⟨p, h1, h2, _⟩ := he x hx
    exact ⟨p, h1.1, h2⟩
  got_up
  refine ⟨k, kvs, rfl, hk.rd, fun l bs nl pr => ?_⟩
  have s4 : Same H3 (upd H3 l (.lst (bs.map V.ref))) := same_new nl
  have hbl : bs.length = kvs.length := (Paired.length pr).symm
  -- each thing listed is a path
  have isP : ∀ v ∈ bs.map V.ref, ∃ p, OnP n m hand p ∧ rPath p v H3 := fun v hv => by
    obtain ⟨b, hb, rfl⟩ := List.mem_map.mp hv
    obtain ⟨j, hj⟩ := List.getElem?_of_mem hb
    obtain ⟨x, hx, r⟩ := All2.get (R := fun (kv : NestedKey × V) (b : V) (H : Hp) => ∃ c, b = .ref c ∧ kAt H kv.1 (.ref c)) (ds := kvs) (vs := bs.map V.ref) (H := H3) (by
      clear hj hb hv hbl s4 hk hkn htold hnd hall he hd hk300
      induction pr with
      | nil => exact .nil
      | cons z t ih => exact .cons ⟨_, rfl, z⟩ ih) (i := j) (v := .ref b) (by rw [List.getElem?_map, hj]; rfl)
    obtain ⟨c, e, r⟩ := r
    injection e with e
    subst e
    obtain ⟨p, h1, h2, _⟩ := he x (List.mem_of_getElem? hx)
    rw [h2] at r
    exact ⟨p, h1, b, rfl, of_kAt_pk r⟩
  have isP' : ∀ {H' : Hp}, Same H3 H' → ∀ v ∈ bs.map V.ref, ∃ p, OnP n m hand p ∧ rPath p v H' := fun s v hv => by
    obtain ⟨p, h1, h2⟩ := isP v hv
    exact ⟨p, h1, mono_rPath _ _ _ _ s h2⟩
  have hlis : (bs.map V.ref).length ≤ 300 := by rw [List.length_map, hbl]; exact hk300
  have hlpos : 0 < (bs.map V.ref).length := by rw [List.length_map, hbl]; exact hkn
  have sa4 : Same H (upd H3 l (.lst (bs.map V.ref))) := ((s1.trans s2).trans s3).trans s4
  got_up
  refine ⟨a, ns, 4, rfl, sa4.seq hs, ?_⟩
  got_up
  refine ⟨l, _, rfl, .inl (SqL.of upd_same), ?_⟩
  got_up
  obtain ⟨bsv, hbsv⟩ : ∃ bsv, bsv = bs.map V.ref := ⟨_, rfl⟩
  obtain ⟨turn, hturn⟩ : ∃ turn, turn = cellM ns 4 % (bsv.length : Int) := ⟨_, rfl⟩
  simp only [← hbsv] at *
  simp only [← hturn]
  refine ⟨l, _, rfl, SqL.of upd_same, fun c1 nc1 => ?_⟩
  have s5 := same_new (o := .lst (L2.cutV bsv (some turn) none)) nc1
  got_up
  refine ⟨l, _, rfl, SqL.of (s5 _ _ upd_same), fun c2 nc2 => ?_⟩
  have s6 := same_new (o := .lst (L2.cutV bsv none (some turn))) nc2
  got_up
  refine ⟨c1, c2, _, _, rfl, rfl, s6 _ _ upd_same, upd_same, ?_, fun c3 nc3 => ?_⟩
  · have h1 := cutV_length bsv (some turn) none
    have h2 := cutV_length bsv none (some turn)
    exact line8 (by omega)
  have s7 := same_new (o := .lst (L2.cutV bsv (some turn) none ++ L2.cutV bsv none (some turn))) nc3
  have s47 := ((s4.trans s5).trans s6).trans s7
  have hc3len : (L2.cutV bsv (some turn) none ++ L2.cutV bsv none (some turn)).length ≤ 600 := by
    have h1 := cutV_length bsv (some turn) none
    have h2 := cutV_length bsv none (some turn)
    rw [List.length_append]
    omega
  have hc3m : ∀ v ∈ L2.cutV bsv (some turn) none ++ L2.cutV bsv none (some turn), v ∈ bsv := fun v hv => by
    rcases List.mem_append.mp hv with h | h
    · exact cut_mem h
    · exact cut_mem h
  obtain ⟨lis, hlisE⟩ : ∃ lis, lis = L2.cutV bsv (some turn) none ++ L2.cutV bsv none (some turn) := ⟨_, rfl⟩
  simp only [← hlisE] at hc3len hc3m s7 s47 ⊢
  obtain ⟨H4, hH4⟩ : ∃ H4, H4 = upd (upd (upd (upd H3 l (.lst bsv)) c1 (.lst (L2.cutV bsv (some turn) none))) c2 (.lst (L2.cutV bsv none (some turn)))) c3 (.lst lis) := ⟨_, rfl⟩
  rw [← hH4] at s47 ⊢
  have hc3 : H4 c3 = some (.lst lis) := by rw [hH4]; exact upd_same
  clear hH4 s5 s6 s7
  got_up
  refine ⟨fun σ' H' => ∃ e ls, σ' = [some (.ref a), some (vn n), some (vn m), some (vn hand), some (.ref d), some (.ref k), some (.ref e), some (.int turn), none, none] ∧ Same H3 H' ∧ SqL G.K H' e ls ∧ ∀ v ∈ ls, ∃ p, OnP n m hand p ∧ rPath p v H', ?_, ?_⟩
  · got_up
    refine ite2 (fun c => ?_) (fun c => ?_)
    · got_up
      refine ⟨c3, _, rfl, SqL.of hc3, fun c4 nc4 => ?_⟩
      have s8 := same_new (o := .lst (L2.cutV lis none (some 12))) nc4
      got_up
      refine ⟨by decide, fun t2 nt2 => ?_⟩
      have s9 := same_new (o := .tup [.int 0]) nt2
      got_up
      refine ⟨by show 1 ≤ sizeLine; decide, fun c5 nc5 => ?_⟩
      have s10 := same_new (o := .lst [.ref t2]) nc5
      have h1 := cutV_length lis none (some 12)
      refine ⟨c4, c5, _, _, rfl, rfl, s10 _ _ (s9 _ _ upd_same), upd_same, line8 (by show _ + 1 ≤ 100000; omega), fun c6 nc6 => ?_⟩
      have s11 := same_new (o := .lst (L2.cutV lis none (some 12) ++ [.ref t2])) nc6
      have sAll := (((s47.trans s8).trans s9).trans s10).trans s11
      refine ⟨c6, _, rfl, sAll, SqL.of upd_same, fun v hv => ?_⟩
      rcases List.mem_append.mp hv with h | h
      · exact isP' sAll v (hc3m v (cut_mem h))
      · exact ⟨[0], hp0, t2, List.mem_singleton.mp h, s11 _ _ (s10 _ _ upd_same)⟩
    · exact ⟨c3, lis, rfl, s47, SqL.of hc3, fun v hv => isP' s47 v (hc3m v hv)⟩
  · rintro σ' H5 ⟨e, ls, rfl, s12, hls, hp⟩
    obtain ⟨ds, hds, hdp⟩ := all2_of (R := rPath) (P := OnP n m hand) hp
    have hd5 : DN G H5 d kvs := (hd.rd.mono s3).mono s12
    have hk5 : DN G H5 k kvs := hk.rd.mono s12
    got_up
    refine for_rl (R := rPath) (K := G.K) (ds := ds) mono_rPath hls hds (fun pre σ' H' => (∃ v8 v9, σ' = [some (.ref a), some (vn n), some (vn m), some (vn hand), some (.ref d), some (.ref k), some (.ref e), some (.int turn), v8, v9]) ∧ Same H5 H')
      ⟨⟨none, none, rfl⟩, Same.refl _⟩ (fun _ _ _ p => p.2) ?_ ?_
    · rintro pre p post v σ' H6 e2 ⟨⟨v8, v9, rfl⟩, s13⟩ ⟨b, rfl, hb⟩
      have hpp : OnP n m hand p := hdp p (by rw [e2]; simp)
      have hpl := hpp.len
      have sgn : SignV (settledM n (fOf kvs) hand (m + 1 - p.length) p) := settledM_sign (S := SignV) (fun ss h => voteM_sign h) hh2 (fun q hq => (htold q hq).2) _ p hpp (by omega)
      got_up
      refine ⟨n, m, hand, k, kvs, fOf kvs, p, _, rfl, hn, hm, hh2, hk5.mono s13, htold, hpp, (show m + 1 - p.length < 3 by omega), ⟨b, rfl, hb⟩, fun H7 s14 => ?_⟩
      got_up
      refine ⟨n, m, hand, d, kvs, fOf kvs, p, _, rfl, hn, hm, hh2, hd5.mono (s13.trans s14), htold, hpp, (show m + 1 - p.length < 3 by omega), ⟨b, rfl, s14 _ _ hb⟩, fun H8 s15 => ?_⟩
      got_up
      refine ⟨sgn, sgn, ?_⟩
      rw [decide_eq_true rfl]
      have sA := (s13.trans s14).trans s15
      got_up
      refine ⟨d, kvs, rfl, hd5.mono sA, ?_⟩
      got_up
      refine ⟨k, kvs, rfl, hk5.mono sA, ?_⟩
      got_up
      rw [decide_eq_true rfl]
      refine iteF ?_
      exact ⟨⟨_, _, rfl⟩, sA⟩
    · rintro σ' H6 ⟨⟨v8, v9, rfl⟩, s13⟩
      got_up
      refine ⟨d, k, kvs, kvs, rfl, rfl, hd5.mono s13, hk5.mono s13, ⟨rfl, fun p hp => ⟨val_nodup hnd p hp, ?_⟩⟩, q _⟩
      obtain ⟨_, _, _, hg⟩ := he p hp
      rcases hg with h | ⟨s, h, _⟩
      · rw [h]; rfl
      · rw [h]; rfl
end
end LT

set_option Elab.async false
set_option linter.all false
set_option maxRecDepth 100000
set_option maxHeartbeats 0

namespace LK
open PySem PySem.Spec PyProof.Rows L2 LT
set_option maxRecDepth 100000
def top (i : Nat) : Stmt := PySem.Challenge.pw_lietable_k03_settled.main.body.getD i (.Pass ⟨0, 0, 0, 0⟩)
abbrev s_l_cell_at : Stmt := top 6
abbrev N_l_cell_at : List PySem.Str := ["_law_script", "_law_k"]
abbrev P_l_cell_at : List PySem.Str := ["_law_script", "_law_k"]
theorem sc_l_cell_at : FnScope N_l_cell_at P_l_cell_at (defScope s_l_cell_at) := ⟨rfl, rfl, rfl, by decide +kernel, rfl, by decide +kernel, by decide +kernel⟩
abbrev s_l_table : Stmt := top 8
abbrev N_l_table : List PySem.Str := ["_law_cell", "_law_most"]
abbrev P_l_table : List PySem.Str := ["_law_cell"]
theorem sc_l_table : FnScope N_l_table P_l_table (defScope s_l_table) := ⟨rfl, rfl, rfl, by decide +kernel, rfl, by decide +kernel, by decide +kernel⟩
abbrev s_l_signs : Stmt := top 7
abbrev N_l_signs : List PySem.Str := ["_law_cell", "_law_letters", "_law_size", "_law_found", "_law_k", "_law_sign", "_law_place", "_law_ahead", "_law_behind"]
abbrev P_l_signs : List PySem.Str := ["_law_cell"]
theorem sc_l_signs : FnScope N_l_signs P_l_signs (defScope s_l_signs) := ⟨rfl, rfl, rfl, by decide +kernel, rfl, by decide +kernel, by decide +kernel⟩
abbrev s_l_paths : Stmt := top 9
abbrev N_l_paths : List PySem.Str := ["_law_hands", "_law_size", "_law_found", "_law_turn", "_law_hand", "_law_path"]
abbrev P_l_paths : List PySem.Str := ["_law_hands", "_law_size"]
theorem sc_l_paths : FnScope N_l_paths P_l_paths (defScope s_l_paths) := ⟨rfl, rfl, rfl, by decide +kernel, rfl, by decide +kernel, by decide +kernel⟩
abbrev s_l_drawn : Stmt := top 13
abbrev N_l_drawn : List PySem.Str := ["_law_script", "_law_hands", "_law_most", "_law_hand", "_law_signs_here", "_law_few", "_law_found", "_law_k", "_law_size", "_law_path", "_law_cell", "_law_mixed"]
abbrev P_l_drawn : List PySem.Str := ["_law_script", "_law_hands", "_law_most", "_law_hand"]
theorem sc_l_drawn : FnScope N_l_drawn P_l_drawn (defScope s_l_drawn) := ⟨rfl, rfl, rfl, by decide +kernel, rfl, by decide +kernel, by decide +kernel⟩
abbrev s_l_vote : Stmt := top 10
abbrev N_l_vote : List PySem.Str := ["_law_signs_here", "_law_sign"]
abbrev P_l_vote : List PySem.Str := ["_law_signs_here"]
theorem sc_l_vote : FnScope N_l_vote P_l_vote (defScope s_l_vote) := ⟨rfl, rfl, rfl, by decide +kernel, rfl, by decide +kernel, by decide +kernel⟩
abbrev s_l_settled : Stmt := top 11
abbrev N_l_settled : List PySem.Str := ["_law_hands", "_law_most", "_law_told", "_law_hand", "_law_path", "_law_others", "_law_other"]
abbrev P_l_settled : List PySem.Str := ["_law_hands", "_law_most", "_law_told", "_law_hand", "_law_path"]
theorem sc_l_settled : FnScope N_l_settled P_l_settled (defScope s_l_settled) := ⟨rfl, rfl, rfl, by decide +kernel, rfl, by decide +kernel, by decide +kernel⟩
abbrev s_hearers : Stmt := top 1
abbrev N_hearers : List PySem.Str := ["hands", "path", "hand"]
abbrev P_hearers : List PySem.Str := ["hands", "path"]
theorem sc_hearers : FnScope N_hearers P_hearers (defScope s_hearers) := ⟨rfl, rfl, rfl, by decide +kernel, rfl, by decide +kernel, by decide +kernel⟩
abbrev s_vote : Stmt := top 3
abbrev N_vote : List PySem.Str := ["signs", "sign"]
abbrev P_vote : List PySem.Str := ["signs"]
theorem sc_vote : FnScope N_vote P_vote (defScope s_vote) := ⟨rfl, rfl, rfl, by decide +kernel, rfl, by decide +kernel, by decide +kernel⟩
abbrev s_settled : Stmt := top 4
abbrev N_settled : List PySem.Str := ["hands", "most", "told", "hand", "path", "signs", "other"]
abbrev P_settled : List PySem.Str := ["hands", "most", "told", "hand", "path"]
theorem sc_settled : FnScope N_settled P_settled (defScope s_settled) := ⟨rfl, rfl, rfl, by decide +kernel, rfl, by decide +kernel, by decide +kernel⟩
abbrev s_l_same : Stmt := top 12
abbrev N_l_same : List PySem.Str := ["_law_found", "_law_due"]
abbrev P_l_same : List PySem.Str := ["_law_found", "_law_due"]
theorem sc_l_same : FnScope N_l_same P_l_same (defScope s_l_same) := ⟨rfl, rfl, rfl, by decide +kernel, rfl, by decide +kernel, by decide +kernel⟩
abbrev s_law : Stmt := top 14
abbrev N_law : List PySem.Str := ["_law_script", "_law_hands", "_law_most", "_law_hand", "_law_told", "_law_kept", "_law_listed", "_law_turn", "_law_path", "_law_due"]
abbrev P_law : List PySem.Str := ["_law_script"]
theorem sc_law : FnScope N_law P_law (defScope s_law) := ⟨rfl, rfl, rfl, by decide +kernel, rfl, by decide +kernel, by decide +kernel⟩
def d_l_cell_at : He.DefD := ⟨("_law_cell_at", none), "_law_cell_at", "_law_cell_at", defArgs s_l_cell_at, defBody s_l_cell_at, defScope s_l_cell_at, [], []⟩
def d_l_table : He.DefD := ⟨("_law_table", none), "_law_table", "_law_table", defArgs s_l_table, defBody s_l_table, defScope s_l_table, [], []⟩
def d_l_signs : He.DefD := ⟨("_law_signs", none), "_law_signs", "_law_signs", defArgs s_l_signs, defBody s_l_signs, defScope s_l_signs, [], []⟩
def d_l_paths : He.DefD := ⟨("_law_paths", none), "_law_paths", "_law_paths", defArgs s_l_paths, defBody s_l_paths, defScope s_l_paths, [], []⟩
def d_l_drawn : He.DefD := ⟨("_law_drawn", none), "_law_drawn", "_law_drawn", defArgs s_l_drawn, defBody s_l_drawn, defScope s_l_drawn, [], []⟩
def d_l_vote : He.DefD := ⟨("_law_vote", none), "_law_vote", "_law_vote", defArgs s_l_vote, defBody s_l_vote, defScope s_l_vote, [], []⟩
def d_l_settled : He.DefD := ⟨("_law_settled", none), "_law_settled", "_law_settled", defArgs s_l_settled, defBody s_l_settled, defScope s_l_settled, [], []⟩
def d_hearers : He.DefD := ⟨("hearers", none), "hearers", "hearers", defArgs s_hearers, defBody s_hearers, defScope s_hearers, [], []⟩
def d_vote : He.DefD := ⟨("vote", none), "vote", "vote", defArgs s_vote, defBody s_vote, defScope s_vote, [], []⟩
def d_settled : He.DefD := ⟨("settled", none), "settled", "settled", defArgs s_settled, defBody s_settled, defScope s_settled, [], []⟩
def d_l_same : He.DefD := ⟨("_law_same", none), "_law_same", "_law_same", defArgs s_l_same, defBody s_l_same, defScope s_l_same, [], []⟩
def d_law : He.DefD := ⟨("law", none), "law", "law", defArgs s_law, defBody s_law, defScope s_law, [], []⟩
def fn : List He.DefD := [d_l_cell_at, d_l_table, d_l_signs, d_l_paths, d_l_drawn, d_l_vote, d_l_settled, d_hearers, d_vote, d_settled, d_l_same, d_law]
def fa : List He.Fa := [.free "dict", .free "isinstance", .free "len", .free "list", .free "max", .free "min", .free "range", .free "str", .free "sum", .glo "_law_cell_at", .glo "_law_table", .glo "_law_signs", .glo "_law_paths", .glo "_law_drawn", .glo "_law_vote", .glo "_law_settled", .glo "hearers", .glo "vote", .glo "settled", .glo "_law_same", .glo "law"]
structure Tx (K : PySem.W.Frag) (mg : PySem.Str → Option Value) : Prop where
  b_dict : mg "dict" = none
  b_isinstance : mg "isinstance" = none
  b_len : mg "len" = none
  b_list : mg "list" = none
  b_max : mg "max" = none
  b_min : mg "min" = none
  b_range : mg "range" = none
  b_str : mg "str" = none
  b_sum : mg "sum" = none
  g__law_cell_at : mg "_law_cell_at" = some (.ref (He.ga K "_law_cell_at"))
  F_l_cell_at : ∃ fd, FunD K "_law_cell_at" "_law_cell_at" (defArgs s_l_cell_at) (defBody s_l_cell_at) (defScope s_l_cell_at) [] [] (He.fAd K ("_law_cell_at", none)) fd
  g__law_table : mg "_law_table" = some (.ref (He.ga K "_law_table"))
  F_l_table : ∃ fd, FunD K "_law_table" "_law_table" (defArgs s_l_table) (defBody s_l_table) (defScope s_l_table) [] [] (He.fAd K ("_law_table", none)) fd
  g__law_signs : mg "_law_signs" = some (.ref (He.ga K "_law_signs"))
  F_l_signs : ∃ fd, FunD K "_law_signs" "_law_signs" (defArgs s_l_signs) (defBody s_l_signs) (defScope s_l_signs) [] [] (He.fAd K ("_law_signs", none)) fd
  g__law_paths : mg "_law_paths" = some (.ref (He.ga K "_law_paths"))
  F_l_paths : ∃ fd, FunD K "_law_paths" "_law_paths" (defArgs s_l_paths) (defBody s_l_paths) (defScope s_l_paths) [] [] (He.fAd K ("_law_paths", none)) fd
  g__law_drawn : mg "_law_drawn" = some (.ref (He.ga K "_law_drawn"))
  F_l_drawn : ∃ fd, FunD K "_law_drawn" "_law_drawn" (defArgs s_l_drawn) (defBody s_l_drawn) (defScope s_l_drawn) [] [] (He.fAd K ("_law_drawn", none)) fd
  g__law_vote : mg "_law_vote" = some (.ref (He.ga K "_law_vote"))
  F_l_vote : ∃ fd, FunD K "_law_vote" "_law_vote" (defArgs s_l_vote) (defBody s_l_vote) (defScope s_l_vote) [] [] (He.fAd K ("_law_vote", none)) fd
  g__law_settled : mg "_law_settled" = some (.ref (He.ga K "_law_settled"))
  F_l_settled : ∃ fd, FunD K "_law_settled" "_law_settled" (defArgs s_l_settled) (defBody s_l_settled) (defScope s_l_settled) [] [] (He.fAd K ("_law_settled", none)) fd
  g_hearers : mg "hearers" = some (.ref (He.ga K "hearers"))
  F_hearers : ∃ fd, FunD K "hearers" "hearers" (defArgs s_hearers) (defBody s_hearers) (defScope s_hearers) [] [] (He.fAd K ("hearers", none)) fd
  g_vote : mg "vote" = some (.ref (He.ga K "vote"))
  F_vote : ∃ fd, FunD K "vote" "vote" (defArgs s_vote) (defBody s_vote) (defScope s_vote) [] [] (He.fAd K ("vote", none)) fd
  g_settled : mg "settled" = some (.ref (He.ga K "settled"))
  F_settled : ∃ fd, FunD K "settled" "settled" (defArgs s_settled) (defBody s_settled) (defScope s_settled) [] [] (He.fAd K ("settled", none)) fd
  g__law_same : mg "_law_same" = some (.ref (He.ga K "_law_same"))
  F_l_same : ∃ fd, FunD K "_law_same" "_law_same" (defArgs s_l_same) (defBody s_l_same) (defScope s_l_same) [] [] (He.fAd K ("_law_same", none)) fd
  F_law : ∃ fd, FunD K "law" "law" (defArgs s_law) (defBody s_law) (defScope s_law) [] [] (He.fAd K ("law", none)) fd
theorem tx_of {K : PySem.W.Frag} {h : Heap} {mg : PySem.Str → Option Value} (X : K.In h) (G : h.Ns mainGlobals mg) (c : He.SaysD fa fn K) : Tx K mg :=
  ⟨He.free_ok X G (c.fact 0 rfl),
   He.free_ok X G (c.fact 1 rfl),
   He.free_ok X G (c.fact 2 rfl),
   He.free_ok X G (c.fact 3 rfl),
   He.free_ok X G (c.fact 4 rfl),
   He.free_ok X G (c.fact 5 rfl),
   He.free_ok X G (c.fact 6 rfl),
   He.free_ok X G (c.fact 7 rfl),
   He.free_ok X G (c.fact 8 rfl),
   He.glo_ok X G (c.fact 9 rfl),
   c.def_ 0 (d := d_l_cell_at) rfl,
   He.glo_ok X G (c.fact 10 rfl),
   c.def_ 1 (d := d_l_table) rfl,
   He.glo_ok X G (c.fact 11 rfl),
   c.def_ 2 (d := d_l_signs) rfl,
   He.glo_ok X G (c.fact 12 rfl),
   c.def_ 3 (d := d_l_paths) rfl,
   He.glo_ok X G (c.fact 13 rfl),
   c.def_ 4 (d := d_l_drawn) rfl,
   He.glo_ok X G (c.fact 14 rfl),
   c.def_ 5 (d := d_l_vote) rfl,
   He.glo_ok X G (c.fact 15 rfl),
   c.def_ 6 (d := d_l_settled) rfl,
   He.glo_ok X G (c.fact 16 rfl),
   c.def_ 7 (d := d_hearers) rfl,
   He.glo_ok X G (c.fact 17 rfl),
   c.def_ 8 (d := d_vote) rfl,
   He.glo_ok X G (c.fact 18 rfl),
   c.def_ 9 (d := d_settled) rfl,
   He.glo_ok X G (c.fact 19 rfl),
   c.def_ 10 (d := d_l_same) rfl,
   c.def_ 11 (d := d_law) rfl⟩
section
variable {P : Program} {w : World} {K : PySem.W.Frag} {mg : PySem.Str → Option Value} {base : Heap} (T : Tx K mg)
include T

theorem b_l_cell_at : Binds K T.F_l_cell_at.choose P_l_cell_at [] := T.F_l_cell_at.choose_spec.bindsN fun _ _ _ _ _ _ us hl => match us, hl with | [_, _], _ => rfl
theorem ok_l_cell_at : FnOk P w K mg base (L2.CX P w) 1 (He.ga K "_law_cell_at") T.F_l_cell_at.choose P_l_cell_at (sp_l_cell_at ⟨P, w, K⟩) := by
  refine T.F_l_cell_at.choose_spec.ok sc_l_cell_at (fun vs H Q E h => by first | (obtain ⟨rfl, _⟩ := h; rfl) | (obtain ⟨_, rfl, _⟩ := h; rfl) | (obtain ⟨_, _, rfl, _⟩ := h; rfl) | (obtain ⟨_, _, _, rfl, _⟩ := h; rfl) | (obtain ⟨_, _, _, _, rfl, _⟩ := h; rfl) | (obtain ⟨_, _, _, _, _, rfl, _⟩ := h; rfl) | (obtain ⟨_, _, _, _, _, _, rfl, _⟩ := h; rfl) | (obtain ⟨_, _, _, _, _, _, _, rfl, _⟩ := h; rfl) | (obtain ⟨_, _, _, _, _, _, _, _, rfl, _⟩ := h; rfl) | (obtain ⟨_, _, _, _, _, _, _, _, _, rfl, _⟩ := h; rfl) | (obtain ⟨_, _, _, _, _, _, _, _, _, _, rfl, _⟩ := h; rfl) | (obtain ⟨_, _, _, _, _, _, _, _, _, _, _, rfl, _⟩ := h; rfl) | (obtain ⟨_, _, _, _, _, _, _, _, _, _, _, _, rfl, _⟩ := h; rfl)) (fun cdv A outer s H vs Q E hr h => ⟨t_l_cell_at ⟨P, w, K⟩ E, PSs.nox ?_, pure_l_cell_at (by rfl) h⟩)
  have hu := hu_of hr
  exact (pss_cons (ps_if (pt_cmpR op_lt (pv 1) (pe_callB call_len_seq (by rfl) T.b_len (by decide +kernel) (pa_cons (pv 0) pa_nil)) (nomark _)) (pss_one (ps_ret (pe_ix ix_list (pv 0) (pv 1) (fun _ _ => rfl)))) pss_nil)
  (pss_one (ps_ret pe_int)))
theorem b_l_table : Binds K T.F_l_table.choose P_l_table [] := T.F_l_table.choose_spec.bindsN fun _ _ _ _ _ _ us hl => match us, hl with | [_], _ => rfl
theorem ok_l_table : FnOk P w K mg base (L2.CX P w) 1 (He.ga K "_law_table") T.F_l_table.choose P_l_table (sp_l_table ⟨P, w, K⟩) := by
  refine T.F_l_table.choose_spec.ok sc_l_table (fun vs H Q E h => by first | (obtain ⟨rfl, _⟩ := h; rfl) | (obtain ⟨_, rfl, _⟩ := h; rfl) | (obtain ⟨_, _, rfl, _⟩ := h; rfl) | (obtain ⟨_, _, _, rfl, _⟩ := h; rfl) | (obtain ⟨_, _, _, _, rfl, _⟩ := h; rfl) | (obtain ⟨_, _, _, _, _, rfl, _⟩ := h; rfl) | (obtain ⟨_, _, _, _, _, _, rfl, _⟩ := h; rfl) | (obtain ⟨_, _, _, _, _, _, _, rfl, _⟩ := h; rfl) | (obtain ⟨_, _, _, _, _, _, _, _, rfl, _⟩ := h; rfl) | (obtain ⟨_, _, _, _, _, _, _, _, _, rfl, _⟩ := h; rfl) | (obtain ⟨_, _, _, _, _, _, _, _, _, _, rfl, _⟩ := h; rfl) | (obtain ⟨_, _, _, _, _, _, _, _, _, _, _, rfl, _⟩ := h; rfl) | (obtain ⟨_, _, _, _, _, _, _, _, _, _, _, _, rfl, _⟩ := h; rfl)) (fun cdv A outer s H vs Q E hr h => ⟨t_l_table ⟨P, w, K⟩ E, PSs.nox ?_, pure_l_table (by rfl) h⟩)
  have hu := hu_of hr
  exact (pss_cons (ps_set (i := 1) sc_l_table.nd rfl (Or.inl rfl) (pe_ix ix_list (pe_lst (pa_cons pe_int (pa_cons pe_int (pa_cons pe_int (pa_cons pe_int (pa_cons pe_int (pa_cons pe_int pa_nil))))))) (pe_op op_mod (pv 0) pe_int) (fun _ _ => rfl)))
  (pss_one (ps_ret (pe_tup (pa_cons (pe_op op_add pe_int (pe_op op_mod (pe_op op_fdiv (pv 0) pe_int) (pe_ix ix_list (pe_lst (pa_cons pe_int (pa_cons pe_int (pa_cons pe_int pa_nil)))) (pv 1) (fun _ _ => rfl)))) (pa_cons (pv 1) pa_nil))))))
theorem b_l_signs : Binds K T.F_l_signs.choose P_l_signs [] := T.F_l_signs.choose_spec.bindsN fun _ _ _ _ _ _ us hl => match us, hl with | [_], _ => rfl
theorem ok_l_signs : FnOk P w K mg base (L2.CX P w) 1 (He.ga K "_law_signs") T.F_l_signs.choose P_l_signs (sp_l_signs ⟨P, w, K⟩) := by
  refine T.F_l_signs.choose_spec.ok sc_l_signs (fun vs H Q E h => by first | (obtain ⟨rfl, _⟩ := h; rfl) | (obtain ⟨_, rfl, _⟩ := h; rfl) | (obtain ⟨_, _, rfl, _⟩ := h; rfl) | (obtain ⟨_, _, _, rfl, _⟩ := h; rfl) | (obtain ⟨_, _, _, _, rfl, _⟩ := h; rfl) | (obtain ⟨_, _, _, _, _, rfl, _⟩ := h; rfl) | (obtain ⟨_, _, _, _, _, _, rfl, _⟩ := h; rfl) | (obtain ⟨_, _, _, _, _, _, _, rfl, _⟩ := h; rfl) | (obtain ⟨_, _, _, _, _, _, _, _, rfl, _⟩ := h; rfl) | (obtain ⟨_, _, _, _, _, _, _, _, _, rfl, _⟩ := h; rfl) | (obtain ⟨_, _, _, _, _, _, _, _, _, _, rfl, _⟩ := h; rfl) | (obtain ⟨_, _, _, _, _, _, _, _, _, _, _, rfl, _⟩ := h; rfl) | (obtain ⟨_, _, _, _, _, _, _, _, _, _, _, _, rfl, _⟩ := h; rfl)) (fun cdv A outer s H vs Q E hr h => ⟨t_l_signs ⟨P, w, K⟩ E, PSs.nox ?_, pure_l_signs (by rfl) h⟩)
  have hu := hu_of hr
  exact (pss_cons (ps_set (i := 1) sc_l_signs.nd rfl (Or.inl rfl) pe_str)
  (pss_cons (ps_set (i := 2) sc_l_signs.nd rfl (Or.inl rfl) (pe_op op_add pe_int (pe_op op_mod (pe_op op_fdiv (pv 0) pe_int) pe_int)))
  (pss_cons (ps_set (i := 3) sc_l_signs.nd rfl (Or.inl rfl) (pe_lst pa_nil))
  (pss_cons (ps_for PassesOwn.never rfl (pi_range1 (by rfl) T.b_range (pa_cons pe_int pa_nil)) (pg_name (i := 4) sc_l_signs.nd rfl (by first | exact Or.inl rfl | exact Or.inr rfl)) (pss_cons (ps_set (i := 5) sc_l_signs.nd rfl (Or.inl rfl) (pe_ix ix_str (pv 1) (pe_op op_mod (pe_op op_add (pe_op op_fdiv (pv 0) pe_int) (pe_op op_mul pe_int (pv 4))) pe_int) (fun _ _ => rfl)))
  (pss_one (ps_if (pt_cmpR op_eq (pe_op op_mod (pv 0) pe_int) pe_int (nomark _)) (pss_one (ps_expr (pe_bm PySem.F.plainAttrs_list PySem.F.slot_list_append PySem.F.type_list_append mt_append (pv 3) (pa_cons (pe_op op_mul_str (pe_ix ix_str (pv 1) (pe_op op_mod (pe_op op_fdiv (pv 0) pe_int) pe_int) (fun _ _ => rfl)) (pe_op op_add pe_int (pe_op op_mul pe_int (pv 4)))) pa_nil)))) (pss_cons (ps_set (i := 6) sc_l_signs.nd rfl (Or.inl rfl) (pe_op op_mod (pe_op op_fdiv (pv 0) pe_int) (pv 2)))
  (pss_cons (ps_set (i := 7) sc_l_signs.nd rfl (Or.inl rfl) (pe_op op_mul_str (pe_ix ix_str (pv 1) (pv 2) (fun _ _ => rfl)) (pv 6)))
  (pss_cons (ps_set (i := 8) sc_l_signs.nd rfl (Or.inl rfl) (pe_op op_mul_str (pe_ix ix_str (pv 1) (pe_op op_add (pv 2) (pe_op op_mod (pv 0) pe_int)) (fun _ _ => rfl)) (pe_op op_sub (pe_op op_sub (pv 2) pe_int) (pv 6))))
  (pss_one (ps_expr (pe_bm PySem.F.plainAttrs_list PySem.F.slot_list_append PySem.F.type_list_append mt_append (pv 3) (pa_cons (pe_op op_add_str (pe_op op_add_str (pv 7) (pv 5)) (pv 8)) pa_nil)))))))))))
  (pss_one (ps_ret (pv 3)))))))
theorem b_l_paths : Binds K T.F_l_paths.choose P_l_paths [] := T.F_l_paths.choose_spec.bindsN fun _ _ _ _ _ _ us hl => match us, hl with | [_, _], _ => rfl
theorem ok_l_paths : FnOk P w K mg base (L2.CX P w) 1 (He.ga K "_law_paths") T.F_l_paths.choose P_l_paths (sp_l_paths ⟨P, w, K⟩) := by
  refine T.F_l_paths.choose_spec.ok sc_l_paths (fun vs H Q E h => by first | (obtain ⟨rfl, _⟩ := h; rfl) | (obtain ⟨_, rfl, _⟩ := h; rfl) | (obtain ⟨_, _, rfl, _⟩ := h; rfl) | (obtain ⟨_, _, _, rfl, _⟩ := h; rfl) | (obtain ⟨_, _, _, _, rfl, _⟩ := h; rfl) | (obtain ⟨_, _, _, _, _, rfl, _⟩ := h; rfl) | (obtain ⟨_, _, _, _, _, _, rfl, _⟩ := h; rfl) | (obtain ⟨_, _, _, _, _, _, _, rfl, _⟩ := h; rfl) | (obtain ⟨_, _, _, _, _, _, _, _, rfl, _⟩ := h; rfl) | (obtain ⟨_, _, _, _, _, _, _, _, _, rfl, _⟩ := h; rfl) | (obtain ⟨_, _, _, _, _, _, _, _, _, _, rfl, _⟩ := h; rfl) | (obtain ⟨_, _, _, _, _, _, _, _, _, _, _, rfl, _⟩ := h; rfl) | (obtain ⟨_, _, _, _, _, _, _, _, _, _, _, _, rfl, _⟩ := h; rfl)) (fun cdv A outer s H vs Q E hr h => ⟨t_l_paths ⟨P, w, K⟩ E, PSs.nox ?_, pure_l_paths (by rfl) h⟩)
  have hu := hu_of hr
  exact (pss_cons (ps_set (i := 2) sc_l_paths.nd rfl (Or.inl rfl) (pe_lst (pa_cons (pe_tup (pa_cons pe_int pa_nil)) pa_nil)))
  (pss_cons (ps_for PassesOwn.never rfl (pi_range1 (by rfl) T.b_range (pa_cons (pe_op op_sub (pe_callB (call_min2 rfl) (by rfl) T.b_min (by decide +kernel) (pa_cons (pv 1) (pa_cons (pe_op op_sub (pv 0) pe_int) pa_nil))) pe_int) pa_nil)) (pg_name (i := 3) sc_l_paths.nd rfl (by first | exact Or.inl rfl | exact Or.inr rfl)) (pss_one (ps_set (i := 2) sc_l_paths.nd rfl (Or.inl rfl) (pe_callB (cr_sumL rfl) (by rfl) T.b_sum (by decide +kernel) (pa_cons (pe_lc (own := [("_law_path", 5)]) (g := (gName 5)) (tt := tYes) rfl sc_l_paths.nd (pi_list (pv 2)) (blkOk_by (N := N_l_paths) (sc := defScope s_l_paths) (by decide +kernel)) (fun _ _ _ _ _ => (pg_name (i := 5) sc_l_paths.nd rfl (by first | exact Or.inl rfl | exact Or.inr rfl))) (fun _ _ _ _ _ => pts_nil) (fun _ _ _ _ _ => (pe_lc (own := [("_law_hand", 4)]) (g := (gName 4)) (tt := (tTest (tOp (rIn K true) (tVar 4) (tVar 5)))) rfl sc_l_paths.nd (pi_range1 (by rfl) T.b_range (pa_cons (pv 0) pa_nil)) (blkOk_by (N := N_l_paths) (by show L2.blkC N_l_paths (L2.relS _ (defScope s_l_paths)) _ _ = true; decide +kernel)) (fun _ _ _ _ _ => (pg_name (i := 4) sc_l_paths.nd rfl (by first | exact Or.inl rfl | exact Or.inr rfl))) (fun _ _ _ _ _ => pts_one (pt_cmpR op_notIn_seq (pv 4) (pv 5) (by rfl))) (fun _ _ _ _ _ => (pe_op op_catA (pv 5) (pe_tup (pa_cons (pv 4) pa_nil))))))) (pa_cons (pe_lst pa_nil) pa_nil))))))
  (pss_one (ps_ret (pe_lc (own := [("_law_path", 5)]) (g := (gName 5)) (tt := (tTest (tOp rEq (tCB (oLen K) (tCons (tVar 5) tNil)) (tVar 1)))) rfl sc_l_paths.nd (pi_list (pv 2)) (blkOk_by (N := N_l_paths) (sc := defScope s_l_paths) (by decide +kernel)) (fun _ _ _ _ _ => (pg_name (i := 5) sc_l_paths.nd rfl (by first | exact Or.inl rfl | exact Or.inr rfl))) (fun _ _ _ _ _ => pts_one (pt_cmpR op_eq (pe_callB call_len_seq (by rfl) T.b_len (by decide +kernel) (pa_cons (pv 5) pa_nil)) (pv 1) (nomark _))) (fun _ _ _ _ _ => (pv 5)))))))
theorem b_l_drawn : Binds K T.F_l_drawn.choose P_l_drawn [] := T.F_l_drawn.choose_spec.bindsN fun _ _ _ _ _ _ us hl => match us, hl with | [_, _, _, _], _ => rfl
theorem ok_l_drawn : FnOk P w K mg base (L2.CX P w) 2 (He.ga K "_law_drawn") T.F_l_drawn.choose P_l_drawn (sp_l_drawn ⟨P, w, K⟩) := by
  refine T.F_l_drawn.choose_spec.ok sc_l_drawn (fun vs H Q E h => by first | (obtain ⟨rfl, _⟩ := h; rfl) | (obtain ⟨_, rfl, _⟩ := h; rfl) | (obtain ⟨_, _, rfl, _⟩ := h; rfl) | (obtain ⟨_, _, _, rfl, _⟩ := h; rfl) | (obtain ⟨_, _, _, _, rfl, _⟩ := h; rfl) | (obtain ⟨_, _, _, _, _, rfl, _⟩ := h; rfl) | (obtain ⟨_, _, _, _, _, _, rfl, _⟩ := h; rfl) | (obtain ⟨_, _, _, _, _, _, _, rfl, _⟩ := h; rfl) | (obtain ⟨_, _, _, _, _, _, _, _, rfl, _⟩ := h; rfl) | (obtain ⟨_, _, _, _, _, _, _, _, _, rfl, _⟩ := h; rfl) | (obtain ⟨_, _, _, _, _, _, _, _, _, _, rfl, _⟩ := h; rfl) | (obtain ⟨_, _, _, _, _, _, _, _, _, _, _, rfl, _⟩ := h; rfl) | (obtain ⟨_, _, _, _, _, _, _, _, _, _, _, _, rfl, _⟩ := h; rfl)) (fun cdv A outer s H vs Q E hr h => ⟨t_l_drawn ⟨P, w, K⟩ E, PSs.nox ?_, pure_l_drawn (by rfl) h⟩)
  have hu := hu_of hr
  have G_l_cell_at := ok_l_cell_at (P := P) (w := w) (base := base) T
  have b_l_cell_at := b_l_cell_at T
  have G_l_signs := ok_l_signs (P := P) (w := w) (base := base) T
  have b_l_signs := b_l_signs T
  have G_l_paths := ok_l_paths (P := P) (w := w) (base := base) T
  have b_l_paths := b_l_paths T
  exact (pss_cons (ps_set (i := 4) sc_l_drawn.nd rfl (Or.inl rfl) (pe_op op_cat (pe_call G_l_signs (hr.mono (by decide)) (by rfl) T.g__law_signs T.F_l_signs.choose_spec.kp b_l_signs .nil passL (pa_cons (pe_call G_l_cell_at (hr.mono (by decide)) (by rfl) T.g__law_cell_at T.F_l_cell_at.choose_spec.kp b_l_cell_at .nil passL (pa_cons (pv 0) (pa_cons pe_int pa_nil))) pa_nil)) (pe_lst (pa_cons pe_non pa_nil))))
  (pss_cons (ps_set (i := 5) sc_l_drawn.nd rfl (Or.inl rfl) (pe_op op_add pe_int (pe_op op_mod (pe_call G_l_cell_at (hr.mono (by decide)) (by rfl) T.g__law_cell_at T.F_l_cell_at.choose_spec.kp b_l_cell_at .nil passL (pa_cons (pv 0) (pa_cons pe_int pa_nil))) pe_int)))
  (pss_cons (ps_set (i := 6) sc_l_drawn.nd rfl (Or.inl rfl) pe_dnew)
  (pss_cons (ps_set (i := 7) sc_l_drawn.nd rfl (Or.inl rfl) pe_int)
  (pss_cons (ps_for PassesOwn.never rfl (pi_range2 (by rfl) T.b_range (pa_cons pe_int (pa_cons (pe_op op_add (pv 2) pe_int) pa_nil))) (pg_name (i := 8) sc_l_drawn.nd rfl (by first | exact Or.inl rfl | exact Or.inr rfl)) (pss_one (ps_for PassesOwn.never rfl (pi_list (pe_call G_l_paths (hr.mono (by decide)) (by rfl) T.g__law_paths T.F_l_paths.choose_spec.kp b_l_paths .nil passL (pa_cons (pv 1) (pa_cons (pv 8) pa_nil)))) (pg_name (i := 9) sc_l_drawn.nd rfl (by first | exact Or.inl rfl | exact Or.inr rfl)) (pss_cons (ps_set (i := 7) sc_l_drawn.nd rfl (Or.inl rfl) (pe_op op_add (pv 7) pe_int))
  (pss_one (ps_if (pt_cmpR op_notIn_seq (pv 3) (pv 9) (by rfl)) (pss_cons (ps_set (i := 10) sc_l_drawn.nd rfl (Or.inl rfl) (pe_ix ix_list (pv 0) (pe_op op_mod (pv 7) (pe_callB call_len_seq (by rfl) T.b_len (by decide +kernel) (pa_cons (pv 0) pa_nil))) (fun _ _ => rfl)))
  (pss_cons (ps_set (i := 11) sc_l_drawn.nd rfl (Or.inl rfl) (pe_op op_mod (pe_op op_add (pe_op op_add (pv 10) (pe_op op_mul pe_int (pv 7))) (pe_op op_mul (pe_op op_mul (pe_callB call_len_seq (by rfl) T.b_len (by decide +kernel) (pa_cons (pv 0) pa_nil)) (pv 7)) (pv 7))) pe_int))
  (pss_cons (ps_set (i := 11) sc_l_drawn.nd rfl (Or.inl rfl) (pe_op op_fdiv (pe_op op_mod (pe_op op_mul (pe_op op_mod (pe_op op_mul (pv 11) (pv 11)) pe_int) pe_int) pe_int) pe_int))
  (Evl.pss_cut (ps_if (pt_cmpR op_eq (pe_op op_mod (pe_op op_fdiv (pe_call G_l_cell_at (hr.mono (by decide)) (by rfl) T.g__law_cell_at T.F_l_cell_at.choose_spec.kp b_l_cell_at .nil passL (pa_cons (pv 0) (pa_cons pe_int pa_nil))) pe_int) pe_int) pe_int (nomark _)) (pss_one (ps_set (i := 11) sc_l_drawn.nd rfl (Or.inl rfl) (pe_callB (call_max2 rfl) (by rfl) T.b_max (by decide +kernel) (pa_cons pe_int (pa_cons (pe_op op_sub (pe_op op_mod (pv 11) pe_int) pe_int) pa_nil))))) pss_nil)
  (pss_one (ps_asg (pe_ix ix_list (pv 4) (pe_op op_mod (pv 11) (pv 5)) (fun _ _ => rfl)) (pg_sub (pv 6) (pv 9) (set_d hr.units)))))))) pss_nil))))))
  (pss_one (ps_ret (pv 6))))))))
theorem b_l_vote : Binds K T.F_l_vote.choose P_l_vote [] := T.F_l_vote.choose_spec.bindsN fun _ _ _ _ _ _ us hl => match us, hl with | [_], _ => rfl
theorem ok_l_vote : FnOk P w K mg base (L2.CX P w) 1 (He.ga K "_law_vote") T.F_l_vote.choose P_l_vote (sp_vote ⟨P, w, K⟩) := by
  refine T.F_l_vote.choose_spec.ok sc_l_vote (fun vs H Q E h => by first | (obtain ⟨rfl, _⟩ := h; rfl) | (obtain ⟨_, rfl, _⟩ := h; rfl) | (obtain ⟨_, _, rfl, _⟩ := h; rfl) | (obtain ⟨_, _, _, rfl, _⟩ := h; rfl) | (obtain ⟨_, _, _, _, rfl, _⟩ := h; rfl) | (obtain ⟨_, _, _, _, _, rfl, _⟩ := h; rfl) | (obtain ⟨_, _, _, _, _, _, rfl, _⟩ := h; rfl) | (obtain ⟨_, _, _, _, _, _, _, rfl, _⟩ := h; rfl) | (obtain ⟨_, _, _, _, _, _, _, _, rfl, _⟩ := h; rfl) | (obtain ⟨_, _, _, _, _, _, _, _, _, rfl, _⟩ := h; rfl) | (obtain ⟨_, _, _, _, _, _, _, _, _, _, rfl, _⟩ := h; rfl) | (obtain ⟨_, _, _, _, _, _, _, _, _, _, _, rfl, _⟩ := h; rfl) | (obtain ⟨_, _, _, _, _, _, _, _, _, _, _, _, rfl, _⟩ := h; rfl)) (fun cdv A outer s H vs Q E hr h => ⟨t_vote ⟨P, w, K⟩ E, PSs.nox ?_, pure_vote (by rfl) h⟩)
  have hu := hu_of hr
  exact (pss_cons (ps_for PassesOwn.never rfl (pi_list (pv 0)) (pg_name (i := 1) sc_l_vote.nd rfl (by first | exact Or.inl rfl | exact Or.inr rfl)) (pss_one (ps_if (pt_cmpR op_gt (pe_op op_mul pe_int (pe_bm PySem.F.plainAttrs_list PySem.F.slot_list_count PySem.F.type_list_count mt_countV (pv 0) (pa_cons (pv 1) pa_nil))) (pe_callB call_len_seq (by rfl) T.b_len (by decide +kernel) (pa_cons (pv 0) pa_nil)) (nomark _)) (pss_one (ps_ret (pv 1))) pss_nil)))
  (pss_one (ps_ret pe_non)))
theorem b_l_settled : Binds K T.F_l_settled.choose P_l_settled [] := T.F_l_settled.choose_spec.bindsN fun _ _ _ _ _ _ us hl => match us, hl with | [_, _, _, _, _], _ => rfl
theorem okd_l_settled : ∀ d : Nat, FnOk P w K mg base (L2.CX P w) (2 + d) (He.ga K "_law_settled") T.F_l_settled.choose P_l_settled (sp_settledD ⟨P, w, K⟩ d) := by
  intro d
  induction d with
  | zero => exact T.F_l_settled.choose_spec.ok sc_l_settled (fun vs H Q E h => h.elim) (fun cdv A outer s H vs Q E hr h => h.elim)
  | succ d G_l_settled =>
    refine T.F_l_settled.choose_spec.ok sc_l_settled (fun vs H Q E h => by obtain ⟨_, _, _, _, _, _, _, _, rfl, _⟩ := h; rfl) (fun cdv A outer s H vs Q E hr h => ⟨t_l_settled (sp_settledD ⟨P, w, K⟩ d) ⟨P, w, K⟩ E, PSs.nox ?_, pure_l_settled d (by rfl) h⟩)
    have hu := hu_of hr
    have b_l_settled := b_l_settled T
    have G_l_vote := ok_l_vote (P := P) (w := w) (base := base) T
    have b_l_vote := b_l_vote T
    exact (pss_cons (ps_if (pt_cmpR op_eq (pe_callB call_len_seq (by rfl) T.b_len (by decide +kernel) (pa_cons (pv 4) pa_nil)) (pe_op op_add (pv 1) pe_int) (nomark _)) (pss_one (ps_ret (pe_ixD hr.units (pv 2) (pv 4) (fun _ _ => rfl)))) pss_nil)
  (pss_cons (ps_setLc (i := 5) (own := [("_law_other", 6)]) (g := (gName 6)) (tt := (tAnd (tTest (tOp rNe (tVar 6) (tVar 3))) (tTest (tOp (rIn K true) (tVar 6) (tVar 4))))) rfl sc_l_settled.nd rfl rfl (sw_true rfl rfl rfl (by decide +kernel)) (pi_range1 (by rfl) T.b_range (pa_cons (pv 0) pa_nil)) (blkOk_by (N := N_l_settled) (sc := defScope s_l_settled) (by decide +kernel)) (fun _ _ _ _ _ => (pg_name (i := 6) sc_l_settled.nd rfl (by first | exact Or.inl rfl | exact Or.inr rfl))) (fun _ _ _ _ _ => pts_one (PW.pt (pw_and (pt_cmpR op_ne (pv 6) (pv 3) (nomark _)) (pw_and1 (pt_cmpR op_notIn_seq (pv 6) (pv 4) (by rfl)))))) (fun _ _ _ _ _ => (pv 6)))
  (pss_one (ps_ret (pe_call G_l_vote (hr.mono (Nat.le_trans (by decide) (Nat.le_add_right 2 d))) (by rfl) T.g__law_vote T.F_l_vote.choose_spec.kp b_l_vote .nil passL (pa_cons (pe_op op_cat (pe_lst (pa_cons (pe_ixD hr.units (pv 2) (pv 4) (fun _ _ => rfl)) pa_nil)) (pe_lc (own := [("_law_other", 6)]) (g := (gName 6)) (tt := tYes) rfl sc_l_settled.nd (pi_list (pv 5)) (blkOk_by (N := N_l_settled) (sc := defScope s_l_settled) (by decide +kernel)) (fun _ _ _ _ _ => (pg_name (i := 6) sc_l_settled.nd rfl (by first | exact Or.inl rfl | exact Or.inr rfl))) (fun _ _ _ _ _ => pts_nil) (fun _ _ _ _ _ => (pe_call G_l_settled (hr.mono (Nat.le_refl _)) (by rfl) T.g__law_settled T.F_l_settled.choose_spec.kp b_l_settled .nil passL (pa_cons (pv 0) (pa_cons (pv 1) (pa_cons (pv 2) (pa_cons (pv 3) (pa_cons (pe_op op_catA (pv 4) (pe_tup (pa_cons (pv 6) pa_nil))) pa_nil))))))))) pa_nil))))))
theorem ok_l_settled : FnOk P w K mg base (L2.CX P w) 5 (He.ga K "_law_settled") T.F_l_settled.choose P_l_settled (sp_settled ⟨P, w, K⟩) := okd_l_settled T 3
theorem b_hearers : Binds K T.F_hearers.choose P_hearers [] := T.F_hearers.choose_spec.bindsN fun _ _ _ _ _ _ us hl => match us, hl with | [_, _], _ => rfl
theorem ok_hearers : FnOk P w K mg base (L2.CX P w) 1 (He.ga K "hearers") T.F_hearers.choose P_hearers (sp_hearers ⟨P, w, K⟩) := by
  refine T.F_hearers.choose_spec.ok sc_hearers (fun vs H Q E h => by first | (obtain ⟨rfl, _⟩ := h; rfl) | (obtain ⟨_, rfl, _⟩ := h; rfl) | (obtain ⟨_, _, rfl, _⟩ := h; rfl) | (obtain ⟨_, _, _, rfl, _⟩ := h; rfl) | (obtain ⟨_, _, _, _, rfl, _⟩ := h; rfl) | (obtain ⟨_, _, _, _, _, rfl, _⟩ := h; rfl) | (obtain ⟨_, _, _, _, _, _, rfl, _⟩ := h; rfl) | (obtain ⟨_, _, _, _, _, _, _, rfl, _⟩ := h; rfl) | (obtain ⟨_, _, _, _, _, _, _, _, rfl, _⟩ := h; rfl) | (obtain ⟨_, _, _, _, _, _, _, _, _, rfl, _⟩ := h; rfl) | (obtain ⟨_, _, _, _, _, _, _, _, _, _, rfl, _⟩ := h; rfl) | (obtain ⟨_, _, _, _, _, _, _, _, _, _, _, rfl, _⟩ := h; rfl) | (obtain ⟨_, _, _, _, _, _, _, _, _, _, _, _, rfl, _⟩ := h; rfl)) (fun cdv A outer s H vs Q E hr h => ⟨t_hearers ⟨P, w, K⟩ E, PSs.nox ?_, pure_hearers (by rfl) h⟩)
  have hu := hu_of hr
  exact (pss_one (ps_ret (pe_lc (own := [("hand", 2)]) (g := (gName 2)) (tt := (tTest (tOp (rIn K true) (tVar 2) (tVar 1)))) rfl sc_hearers.nd (pi_range1 (by rfl) T.b_range (pa_cons (pv 0) pa_nil)) (blkOk_by (N := N_hearers) (sc := defScope s_hearers) (by decide +kernel)) (fun _ _ _ _ _ => (pg_name (i := 2) sc_hearers.nd rfl (by first | exact Or.inl rfl | exact Or.inr rfl))) (fun _ _ _ _ _ => pts_one (pt_cmpR op_notIn_seq (pv 2) (pv 1) (by rfl))) (fun _ _ _ _ _ => (pv 2)))))
theorem b_vote : Binds K T.F_vote.choose P_vote [] := T.F_vote.choose_spec.bindsN fun _ _ _ _ _ _ us hl => match us, hl with | [_], _ => rfl
theorem ok_vote : FnOk P w K mg base (L2.CX P w) 1 (He.ga K "vote") T.F_vote.choose P_vote (sp_vote ⟨P, w, K⟩) := by
  refine T.F_vote.choose_spec.ok sc_vote (fun vs H Q E h => by first | (obtain ⟨rfl, _⟩ := h; rfl) | (obtain ⟨_, rfl, _⟩ := h; rfl) | (obtain ⟨_, _, rfl, _⟩ := h; rfl) | (obtain ⟨_, _, _, rfl, _⟩ := h; rfl) | (obtain ⟨_, _, _, _, rfl, _⟩ := h; rfl) | (obtain ⟨_, _, _, _, _, rfl, _⟩ := h; rfl) | (obtain ⟨_, _, _, _, _, _, rfl, _⟩ := h; rfl) | (obtain ⟨_, _, _, _, _, _, _, rfl, _⟩ := h; rfl) | (obtain ⟨_, _, _, _, _, _, _, _, rfl, _⟩ := h; rfl) | (obtain ⟨_, _, _, _, _, _, _, _, _, rfl, _⟩ := h; rfl) | (obtain ⟨_, _, _, _, _, _, _, _, _, _, rfl, _⟩ := h; rfl) | (obtain ⟨_, _, _, _, _, _, _, _, _, _, _, rfl, _⟩ := h; rfl) | (obtain ⟨_, _, _, _, _, _, _, _, _, _, _, _, rfl, _⟩ := h; rfl)) (fun cdv A outer s H vs Q E hr h => ⟨t_vote ⟨P, w, K⟩ E, PSs.nox ?_, pure_vote (by rfl) h⟩)
  have hu := hu_of hr
  exact (pss_cons (ps_for PassesOwn.never rfl (pi_list (pv 0)) (pg_name (i := 1) sc_vote.nd rfl (by first | exact Or.inl rfl | exact Or.inr rfl)) (pss_one (ps_if (pt_cmpR op_gt (pe_op op_mul pe_int (pe_bm PySem.F.plainAttrs_list PySem.F.slot_list_count PySem.F.type_list_count mt_countV (pv 0) (pa_cons (pv 1) pa_nil))) (pe_callB call_len_seq (by rfl) T.b_len (by decide +kernel) (pa_cons (pv 0) pa_nil)) (nomark _)) (pss_one (ps_ret (pv 1))) pss_nil)))
  (pss_one (ps_ret pe_non)))
theorem b_settled : Binds K T.F_settled.choose P_settled [] := T.F_settled.choose_spec.bindsN fun _ _ _ _ _ _ us hl => match us, hl with | [_, _, _, _, _], _ => rfl
theorem okd_settled : ∀ d : Nat, FnOk P w K mg base (L2.CX P w) (2 + d) (He.ga K "settled") T.F_settled.choose P_settled (sp_settledD ⟨P, w, K⟩ d) := by
  intro d
  induction d with
  | zero => exact T.F_settled.choose_spec.ok sc_settled (fun vs H Q E h => h.elim) (fun cdv A outer s H vs Q E hr h => h.elim)
  | succ d G_settled =>
    refine T.F_settled.choose_spec.ok sc_settled (fun vs H Q E h => by obtain ⟨_, _, _, _, _, _, _, _, rfl, _⟩ := h; rfl) (fun cdv A outer s H vs Q E hr h => ⟨t_settled (sp_settledD ⟨P, w, K⟩ d) ⟨P, w, K⟩ E, PSs.nox ?_, pure_settled d (by rfl) h⟩)
    have hu := hu_of hr
    have b_settled := b_settled T
    have G_hearers := ok_hearers (P := P) (w := w) (base := base) T
    have b_hearers := b_hearers T
    have G_vote := ok_vote (P := P) (w := w) (base := base) T
    have b_vote := b_vote T
    exact (pss_cons (ps_if (pt_cmpR op_eq (pe_callB call_len_seq (by rfl) T.b_len (by decide +kernel) (pa_cons (pv 4) pa_nil)) (pe_op op_add (pv 1) pe_int) (nomark _)) (pss_one (ps_ret (pe_ixD hr.units (pv 2) (pv 4) (fun _ _ => rfl)))) pss_nil)
  (pss_cons (ps_set (i := 5) sc_settled.nd rfl (Or.inl rfl) (pe_lst (pa_cons (pe_ixD hr.units (pv 2) (pv 4) (fun _ _ => rfl)) pa_nil)))
  (pss_cons (ps_for PassesOwn.never rfl (pi_list (pe_call G_hearers (hr.mono (Nat.le_trans (by decide) (Nat.le_add_right 2 d))) (by rfl) T.g_hearers T.F_hearers.choose_spec.kp b_hearers .nil passL (pa_cons (pv 0) (pa_cons (pv 4) pa_nil)))) (pg_name (i := 6) sc_settled.nd rfl (by first | exact Or.inl rfl | exact Or.inr rfl)) (pss_one (ps_if (pt_cmpR op_ne (pv 6) (pv 3) (nomark _)) (pss_one (ps_expr (pe_bm PySem.F.plainAttrs_list PySem.F.slot_list_append PySem.F.type_list_append mt_append (pv 5) (pa_cons (pe_call G_settled (hr.mono (Nat.le_refl _)) (by rfl) T.g_settled T.F_settled.choose_spec.kp b_settled .nil passL (pa_cons (pv 0) (pa_cons (pv 1) (pa_cons (pv 2) (pa_cons (pv 3) (pa_cons (pe_op op_catA (pv 4) (pe_tup (pa_cons (pv 6) pa_nil))) pa_nil)))))) pa_nil)))) pss_nil)))
  (pss_one (ps_ret (pe_call G_vote (hr.mono (Nat.le_trans (by decide) (Nat.le_add_right 2 d))) (by rfl) T.g_vote T.F_vote.choose_spec.kp b_vote .nil passL (pa_cons (pv 5) pa_nil)))))))
theorem ok_settled : FnOk P w K mg base (L2.CX P w) 5 (He.ga K "settled") T.F_settled.choose P_settled (sp_settled ⟨P, w, K⟩) := okd_settled T 3
theorem b_l_same : Binds K T.F_l_same.choose P_l_same [] := T.F_l_same.choose_spec.bindsN fun _ _ _ _ _ _ us hl => match us, hl with | [_, _], _ => rfl
theorem ok_l_same : FnOk P w K mg base (L2.CX P w) 1 (He.ga K "_law_same") T.F_l_same.choose P_l_same (sp_l_same ⟨P, w, K⟩) := by
  refine T.F_l_same.choose_spec.ok sc_l_same (fun vs H Q E h => by first | (obtain ⟨rfl, _⟩ := h; rfl) | (obtain ⟨_, rfl, _⟩ := h; rfl) | (obtain ⟨_, _, rfl, _⟩ := h; rfl) | (obtain ⟨_, _, _, rfl, _⟩ := h; rfl) | (obtain ⟨_, _, _, _, rfl, _⟩ := h; rfl) | (obtain ⟨_, _, _, _, _, rfl, _⟩ := h; rfl) | (obtain ⟨_, _, _, _, _, _, rfl, _⟩ := h; rfl) | (obtain ⟨_, _, _, _, _, _, _, rfl, _⟩ := h; rfl) | (obtain ⟨_, _, _, _, _, _, _, _, rfl, _⟩ := h; rfl) | (obtain ⟨_, _, _, _, _, _, _, _, _, rfl, _⟩ := h; rfl) | (obtain ⟨_, _, _, _, _, _, _, _, _, _, rfl, _⟩ := h; rfl) | (obtain ⟨_, _, _, _, _, _, _, _, _, _, _, rfl, _⟩ := h; rfl) | (obtain ⟨_, _, _, _, _, _, _, _, _, _, _, _, rfl, _⟩ := h; rfl)) (fun cdv A outer s H vs Q E hr h => ⟨t_l_same ⟨P, w, K⟩ E, PSs.nox ?_, pure_l_same (by rfl) h⟩)
  have hu := hu_of hr
  exact (pss_cons (ps_if (pt_cmpR op_isN (pv 1) pe_non (nomark _)) (pss_one (ps_ret (pe_cmpR op_isN (pv 0) pe_non (nomark _)))) pss_nil)
  (pss_one (ps_ret (pe_and (pe_callB call_isi (by rfl) T.b_isinstance (by decide +kernel) (pa_cons (pv 0) (pa_cons (pe_bltn (v := .ty "str") (by rfl) T.b_str (by decide +kernel) rfl) pa_nil))) (pe_one (pe_cmpR op_eq (pv 0) (pv 1) (nomark _)))))))
theorem b_law : Binds K T.F_law.choose P_law [] := T.F_law.choose_spec.bindsN fun _ _ _ _ _ _ us hl => match us, hl with | [_], _ => rfl
theorem ok_law : FnOk P w K mg base CX0 6 (He.ga K "law") T.F_law.choose P_law (sp_law ⟨P, w, K⟩) := by
  refine T.F_law.choose_spec.ok sc_law (fun vs H Q E h => by first | (obtain ⟨rfl, _⟩ := h; rfl) | (obtain ⟨_, rfl, _⟩ := h; rfl) | (obtain ⟨_, _, rfl, _⟩ := h; rfl) | (obtain ⟨_, _, _, rfl, _⟩ := h; rfl) | (obtain ⟨_, _, _, _, rfl, _⟩ := h; rfl) | (obtain ⟨_, _, _, _, _, rfl, _⟩ := h; rfl) | (obtain ⟨_, _, _, _, _, _, rfl, _⟩ := h; rfl) | (obtain ⟨_, _, _, _, _, _, _, rfl, _⟩ := h; rfl) | (obtain ⟨_, _, _, _, _, _, _, _, rfl, _⟩ := h; rfl) | (obtain ⟨_, _, _, _, _, _, _, _, _, rfl, _⟩ := h; rfl) | (obtain ⟨_, _, _, _, _, _, _, _, _, _, rfl, _⟩ := h; rfl) | (obtain ⟨_, _, _, _, _, _, _, _, _, _, _, rfl, _⟩ := h; rfl) | (obtain ⟨_, _, _, _, _, _, _, _, _, _, _, _, rfl, _⟩ := h; rfl)) (fun cdv A outer s H vs Q E hr h => ⟨t_law03 ⟨P, w, K⟩ E, PSs.nox ?_, pure_law03 (by rfl) h⟩)
  have hu := hu_of hr
  have G_l_cell_at := ok_l_cell_at (P := P) (w := w) (base := base) T
  have b_l_cell_at := b_l_cell_at T
  have G_l_table := ok_l_table (P := P) (w := w) (base := base) T
  have b_l_table := b_l_table T
  have G_l_drawn := ok_l_drawn (P := P) (w := w) (base := base) T
  have b_l_drawn := b_l_drawn T
  have G_l_settled := ok_l_settled (P := P) (w := w) (base := base) T
  have b_l_settled := b_l_settled T
  have G_settled := ok_settled (P := P) (w := w) (base := base) T
  have b_settled := b_settled T
  have G_l_same := ok_l_same (P := P) (w := w) (base := base) T
  have b_l_same := b_l_same T
  exact (pss_cons (ps_if (pt_cmpR op_eq (pe_callB call_len_seq (by rfl) T.b_len (by decide +kernel) (pa_cons (pv 0) pa_nil)) pe_int (nomark _)) (pss_one (ps_ret pe_bl)) pss_nil)
  (pss_cons (ps_asg (pe_call G_l_table (hr.mono (by decide)) (by rfl) T.g__law_table T.F_l_table.choose_spec.kp b_l_table .nil passL (pa_cons (pe_call G_l_cell_at (hr.mono (by decide)) (by rfl) T.g__law_cell_at T.F_l_cell_at.choose_spec.kp b_l_cell_at .nil passL (pa_cons (pv 0) (pa_cons pe_int pa_nil))) pa_nil)) (pg_tup rfl (pgs_cons (pg_name (i := 1) sc_law.nd rfl (by first | exact Or.inl rfl | exact Or.inr rfl)) (pgs_cons (pg_name (i := 2) sc_law.nd rfl (by first | exact Or.inl rfl | exact Or.inr rfl)) pgs_nil))))
  (pss_cons (ps_set (i := 3) sc_law.nd rfl (Or.inl rfl) (pe_op op_add pe_int (pe_op op_mod (pe_call G_l_cell_at (hr.mono (by decide)) (by rfl) T.g__law_cell_at T.F_l_cell_at.choose_spec.kp b_l_cell_at .nil passL (pa_cons (pv 0) (pa_cons pe_int pa_nil))) (pe_op op_sub (pv 1) pe_int))))
  (pss_cons (ps_set (i := 4) sc_law.nd rfl (Or.inl rfl) (pe_call G_l_drawn (hr.mono (by decide)) (by rfl) T.g__law_drawn T.F_l_drawn.choose_spec.kp b_l_drawn .nil passL (pa_cons (pv 0) (pa_cons (pv 1) (pa_cons (pv 2) (pa_cons (pv 3) pa_nil))))))
  (pss_cons (ps_set (i := 5) sc_law.nd rfl (Or.inl rfl) (pe_callTy (call_dict_d hr.units) (by rfl) T.b_dict (by decide +kernel) (pa_cons (pv 4) pa_nil)))
  (pss_cons (ps_set (i := 6) sc_law.nd rfl (Or.inl rfl) (pe_callTy (call_list_d rfl) (by rfl) T.b_list (by decide +kernel) (pa_cons (pv 5) pa_nil)))
  (pss_cons (ps_set (i := 7) sc_law.nd rfl (Or.inl rfl) (pe_op op_mod (pe_call G_l_cell_at (hr.mono (by decide)) (by rfl) T.g__law_cell_at T.F_l_cell_at.choose_spec.kp b_l_cell_at .nil passL (pa_cons (pv 0) (pa_cons pe_int pa_nil))) (pe_callB call_len_seq (by rfl) T.b_len (by decide +kernel) (pa_cons (pv 6) pa_nil))))
  (pss_cons (ps_set (i := 6) sc_law.nd rfl (Or.inl rfl) (pe_op op_cat (pe_slice sl_list (pv 6) (po_some (pv 7)) po_none) (pe_slice sl_list (pv 6) po_none (po_some (pv 7)))))
  (Evl.pss_cut (ps_if (pt_cmpR op_gt (pv 1) pe_int (nomark _)) (pss_one (ps_set (i := 6) sc_law.nd rfl (Or.inl rfl) (pe_op op_cat (pe_slice sl_list (pv 6) po_none (po_some pe_int)) (pe_lst (pa_cons (pe_tup (pa_cons pe_int pa_nil)) pa_nil))))) pss_nil)
  (pss_cons (ps_for PassesOwn.never rfl (pi_list (pv 6)) (pg_name (i := 8) sc_law.nd rfl (by first | exact Or.inl rfl | exact Or.inr rfl)) (pss_cons (ps_set (i := 9) sc_law.nd rfl (Or.inl rfl) (pe_call G_l_settled (hr.mono (by decide)) (by rfl) T.g__law_settled T.F_l_settled.choose_spec.kp b_l_settled .nil passL (pa_cons (pv 1) (pa_cons (pv 2) (pa_cons (pv 5) (pa_cons (pv 3) (pa_cons (pv 8) pa_nil)))))))
  (pss_one (ps_if (PW.pt (pw_or (pt_not (pt_val (pe_call G_l_same (hr.mono (by decide)) (by rfl) T.g__law_same T.F_l_same.choose_spec.kp b_l_same .nil passL (pa_cons (pe_call G_settled (hr.mono (by decide)) (by rfl) T.g_settled T.F_settled.choose_spec.kp b_settled .nil passL (pa_cons (pv 1) (pa_cons (pv 2) (pa_cons (pv 4) (pa_cons (pv 3) (pa_cons (pv 8) pa_nil)))))) (pa_cons (pv 9) pa_nil))))) (pw_or1 (pt_cmpR op_ne (pe_callB call_len_d (by rfl) T.b_len (by decide +kernel) (pa_cons (pv 4) pa_nil)) (pe_callB call_len_d (by rfl) T.b_len (by decide +kernel) (pa_cons (pv 5) pa_nil)) (nomark _))))) (pss_one (ps_ret pe_bl)) pss_nil))))
  (pss_one (ps_ret (pe_cmpR (op_eq_d hr.units) (pv 4) (pv 5) (nomark _))))))))))))))
end
def names0 : List PySem.Str := ["hearers", "vote", "settled", "_law_cell_at", "_law_signs", "_law_table", "_law_paths", "_law_vote", "_law_settled", "_law_same", "_law_drawn"]
def names : List PySem.Str := names0
abbrev R : PySem.W.OpenRow := PySem.W.OpenLaw.row PySem.Challenge.rw_lietable_k03_settled
abbrev hk : PySem.W.Hook := He.hookD 5 fa fn
def ob (s : PySem.W.SharedT) : He.AlD := He.obsDG 5 fa fn (HandSHeadRun.getT s)
theorem ob_eq (s : PySem.W.SharedT) : ob s = hk.obs s.abs := He.obsDG_eq (HandSHeadRun.getT_eq s)
theorem run (w : World) : HandSHeadRun.RunEq R (PySem.W.view R.prog [14]) hk ob 6000 names w := by
  intro os
  kernel_rfl
theorem facts {P : Program} {w : World} {K : PySem.W.Frag} {h : Heap} {mg : PySem.Str → Option Value} {f : Addr} (X : K.In h) (G : h.Ns mainGlobals mg) (hfa : mg ("law" : PySem.Str) = some (.ref f)) (c : He.SaysD fa fn K) :
    ∃ fd : FuncData, (∀ (s : Shared) (v : Value), BindsTo s fd ⟨[v], []⟩ [("_law_script", v)]) ∧ ∀ base : Heap, K.In base → base.Ns mainGlobals mg → FnOk P w K mg base CX0 6 f fd ["_law_script"] (sp_law ⟨P, w, K⟩) := by
  have T := tx_of X G c
  have e := hfa.symm.trans (He.glo_ok X G (c.fact 20 (f := .glo "law") rfl))
  cases e
  have b := FunD.bindsA (ps := ["_law_script"]) T.F_law.choose_spec fun _ _ _ _ _ _ us hl => match us, hl with | [_], _ => rfl
  exact ⟨T.F_law.choose, fun s v => b s [v] rfl, fun base _ _ => ok_law T⟩
end LK
open PySem PySem.W PySem.Calls PyProof.Rows
theorem PySem.Challenge.cw_lietable_k03_settled_holds : PySem.Challenge.rw_lietable_k03_settled.Holds := by
  w_on; o_law
  refine HandSHeadRun.head_any (r := OpenLaw.row PySem.Challenge.rw_lietable_k03_settled) (q := view (OpenLaw.row PySem.Challenge.rw_lietable_k03_settled).prog [14]) (H := LK.hk) (ob := LK.ob) (M := 6000) (loose := LK.names) (d := HandSHeadRun.topDef (OpenLaw.row PySem.Challenge.rw_lietable_k03_settled).prog 14) (kwd := []) LK.ob_eq
    (by kernel_rfl) (fun s => by kernel_rfl) LK.run (by kernel_rfl) (by kernel_rfl) (by kernel_rfl) (by rfl) (by first | assumption | decide +kernel) (by decide +kernel) ⟨rfl, rfl, rfl, rfl, rfl, by decide +kernel⟩ ?hw ?hc
  case hw => w_witness2
  case hc =>
    refine L2.walk_ofE (l := PySem.Challenge.rw_lietable_k03_settled) (n := 63) (k := 6) (x := "_law_script") (CX := L2.CX0) rfl (by decide) (by kernel_rfl) ⟨rfl, by decide, by decide⟩ ?F (fun _ _ _ _ z => z)
    intro w mg fa h Y G hmg0
    obtain ⟨K, KX, c⟩ := Y
    have hmg : mg ("law" : PySem.Str) = some (.ref fa) := by
      have e : (HandSHeadRun.topDef (OpenLaw.row PySem.Challenge.rw_lietable_k03_settled).prog 14).name = ("law" : PySem.Str) := by kernel_rfl
      rw [← e]
      exact hmg0
    obtain ⟨fd, hb, hF⟩ := LK.facts (P := (PySem.Challenge.rw_lietable_k03_settled).prog) (w := w) KX G hmg c
    exact ⟨K, fd, LT.sp_law ⟨(PySem.Challenge.rw_lietable_k03_settled).prog, w, K⟩, KX, hb, fun H a ns hl _ hS => ⟨a, ns, rfl, hS, hl, fun _ => rfl⟩, hF⟩
