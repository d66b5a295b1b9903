import PyProof.Rows.All
import Wide.All
import OpenK.AllK
import Wide.FinOn
import PyProof.StrOps2
import KE.KDictKeyed
import KE.KDictWalk
import KE.KDictCopyH
import HandS.Base
import HandS.Call
import HandS.List
import HandS.Comp
import HandS.Ends
import HandS.Dict
import HandS.Iter
import HandS.Text
import HandS.Exc
import HandS.ExcOwn
import HandS.TryOnly
import HandS.Words
import HandS.WordsList
import HandS.WordsExc
import HandS.Evl
import HandS.IsInst
import HandS.TupAny
import HandS.SetFor
import HandS.Defaults
import HandS.Walk
import HandS.More
import HandS.Head0
import HandS.Head1
import HandS.Head2
import HandS.HeadEnd
import HandS.HeadHook1
import HandS.HeadHook2
import PySem.Challenge.RW_lietable_k02_votes
set_option Elab.async false
set_option linter.all false
set_option maxRecDepth 100000
set_option maxHeartbeats 4000000
/-! LTa: the names of the readings that the printed texts use; rules of one's own for values. -/
namespace LT
open PySem PySem.Spec PyProof.Rows L2

structure G3 where
  P : Program
  w : World
  K : PySem.W.Frag

/-! ### readings by name -/
abbrev oAdd : R2 := rI0 fun i j => .int (i + j)
abbrev oSub : R2 := rI0 fun i j => .int (i - j)
abbrev oMul : R2 := rI CMul fun i j => .int (i * j)
abbrev oDiv : R2 := rI CDiv fun i j => .int (i / j)
abbrev oMod : R2 := rI (fun _ j => 0 < j) fun i j => .int (i % j)
abbrev oPow : R2 := rI CPow fun i j => .int (i ^ j.toNat)
abbrev oNeg : V → Hp → VK → Prop := rU fun i => .int (-i)
abbrev oLt : R2 := rI0 fun i j => .bl (decide (i < j))
abbrev oLe : R2 := rI0 fun i j => .bl (decide (i ≤ j))
abbrev oGt : R2 := rI0 fun i j => .bl (decide (j < i))
abbrev oGe : R2 := rI0 fun i j => .bl (decide (j ≤ i))
abbrev oIsN : R2 := fun x y H Q => y = .non ∧ Q (.bl (decide (x = .non))) H
abbrev oNotN : R2 := fun x y H Q => y = .non ∧ Q (.bl (!decide (x = .non))) H
abbrev oInS : R2 := fun x y H Q => ∃ (c : Nat) (z : Str), x = .str ⟨#[c]⟩ ∧ y = .str z ∧ Q (.bl (decide (c ∈ z.cps.toList))) H
abbrev oNinS : R2 := fun x y H Q => ∃ (c : Nat) (z : Str), x = .str ⟨#[c]⟩ ∧ y = .str z ∧ Q (.bl (!decide (c ∈ z.cps.toList))) H
abbrev oCatS : R2 := fun x y H Q => ∃ i j, x = .str i ∧ y = .str j ∧ i.length + j.length ≤ sizeLine ∧ Q (.str (i ++ j)) H
abbrev oLen (K : PySem.W.Frag) : List V → Hp → VK → Prop := fun xs H Q => ∃ p ys, xs = [.ref p] ∧ (SqL K H p ys ∨ SqT K H p ys) ∧ Q (.int ys.length) H
abbrev oLenS : List V → Hp → VK → Prop := fun xs H Q => ∃ z, xs = [.str z] ∧ z.length ≤ sizeLine ∧ Q (.int z.length) H
abbrev oList (K : PySem.W.Frag) : List V → Hp → VK → Prop := fun xs H Q => ∃ p ys, xs = [.ref p] ∧ (SqL K H p ys ∨ SqT K H p ys) ∧ ∀ l, H l = none → Q (.ref l) (upd H l (.lst ys))
abbrev oTuple (K : PySem.W.Frag) : List V → Hp → VK → Prop := fun xs H Q => ∃ p ys, xs = [.ref p] ∧ ((SqL K H p ys ∧ ∀ l, H l = none → Q (.ref l) (upd H l (.tup ys))) ∨ (SqT K H p ys ∧ Q (.ref p) H))
abbrev oMin2 : List V → Hp → VK → Prop := fun xs H Q => ∃ i j, xs = [.int i, .int j] ∧ Q (.int (if j < i then j else i)) H
abbrev oMax2 : List V → Hp → VK → Prop := fun xs H Q => ∃ i j, xs = [.int i, .int j] ∧ Q (.int (if j > i then j else i)) H
abbrev oSlSeq (K : PySem.W.Frag) : V → Option Int → Option Int → Hp → VK → Prop := fun x lo hi H Q => rSlL K x lo hi H Q ∨ rSlA K x lo hi H Q
/-- raise C(..), C at the address C -/
abbrev tRaise (C : Addr) (E : XK) : TS := fun _ _ H => E (.ref C) none H

section
variable {X : Cx}
/-! ### a text, some times over -/
def repS (x : Str) (n : Nat) : Str := ⟨(List.replicate n x.cps).foldl (· ++ ·) #[]⟩
theorem foldl_cat (l : List (Array Nat)) : ∀ a : Array Nat, (l.foldl (· ++ ·) a).toList = a.toList ++ (l.map Array.toList).flatten := by
  induction l with
  | nil => intro a; simp
  | cons b l ih => intro a; rw [List.foldl_cons, ih]; simp
theorem repS_list (x : Str) (n : Nat) : (repS x n).cps.toList = (List.replicate n x.cps.toList).flatten := by
  unfold repS
  rw [foldl_cat]
  simp
theorem Str.len_eq (x : Str) : x.length = x.cps.toList.length := by simp [Str.length]
theorem repS_len (x : Str) (n : Nat) : (repS x n).length = n * x.length := by
  rw [Str.len_eq, repS_list, Str.len_eq]
  simp
/-- s * n, short -/
abbrev oMulS : R2 := fun x y H Q => ∃ z n, x = .str z ∧ y = .int n ∧ z.length ≤ 1000 ∧ -1000 ≤ n ∧ n ≤ 1000 ∧ Q (.str (repS z n.toNat)) H
theorem op_mul_str : OpR X (binaryOp .Mult) oMulS := by
  intro pins s σ H x y v u Q I rx ry h
  obtain ⟨z, n, rfl, rfl, hz, h1, h2, q⟩ := h
  obtain ⟨t, rfl⟩ := rx
  obtain ⟨t', rfl⟩ := ry
  refine PySem.P.mul_str ?_ ?_ ?_ ?_
  · rw [decide_eq_false (by omega), decide_eq_false (by omega)]; rfl
  · intro hn _
    have e : (2 ^ 63 - 1 : Int) / n ≥ (2 ^ 63 - 1) / 1000 := by
      have hp : 0 < n := by omega
      refine Int.le_ediv_of_mul_le hp ?_
      have : ((2 ^ 63 - 1 : Int) / 1000) * n ≤ ((2 ^ 63 - 1 : Int) / 1000) * 1000 := Int.mul_le_mul_of_nonneg_left h2 (by decide)
      omega
    have e2 : ((2 ^ 63 - 1 : Int) / 1000) > 1000 := by decide
    omega
  · intro hn _
    have hm : z.length * n.toNat ≤ 1000 * 1000 := Nat.mul_le_mul hz (by omega)
    unfold Builtin.Str.tooLong
    exact decide_eq_false (by
      have := sizeLine_eq
      omega)
  · by_cases c : n < 1
    · rw [if_pos c]
      refine ⟨by decide, ?_⟩
      have e : n.toNat = 0 := by omega
      rw [e] at q
      exact ⟨.str (repS z 0), H, I.tok _, ⟨s.toks, rfl⟩, q⟩
    · rw [if_neg c]
      by_cases c2 : (n == 1 || z.length == 0) = true
      · rw [if_pos c2]
        refine ⟨.str (repS z n.toNat), H, I, ⟨t, ?_⟩, q⟩
        have e : repS z n.toNat = z := by
          have e2 : (repS z n.toNat).cps = z.cps := by
            apply Array.toList_inj.mp
            rw [repS_list]
            rcases Bool.or_eq_true_iff.mp c2 with h | h
            · have : n.toNat = 1 := by have := eq_of_beq h; omega
              rw [this]; simp
            · have hz : z.cps.toList = [] := by
                have := eq_of_beq h
                rw [Str.len_eq] at this
                exact List.length_eq_zero_iff.mp this
              rw [hz]; simp
          cases z; cases h : repS _ _; rw [h] at e2; simp at e2; rw [e2]
        rw [e]
      · rw [if_neg c2]
        refine ⟨?_, ⟨.str (repS z n.toNat), H, I.tok _, ⟨s.toks, rfl⟩, q⟩⟩
        show (repS z n.toNat).length ≤ sizeLine
        rw [repS_len]
        have hm : n.toNat * z.length ≤ 1000 * 1000 := Nat.mul_le_mul (by omega) hz
        have := sizeLine_eq
        omega

/-! ### xs.count(v), flat values -/
theorem countP_eqU {x : V} : ∀ {xs : List V} {us : List Value}, Vals xs us → xs.all flatV = true → us.countP (eqU x) = xs.countP fun y => eqV y x
  | _, _, .nil, _ => rfl
  | y :: xs, u :: us, .cons r t, f => by
    rw [List.all_cons, Bool.and_eq_true] at f
    rw [List.countP_cons, List.countP_cons, eqU_of r f.1, countP_eqU t f.2]
abbrev oCount (K : PySem.W.Frag) : V → List V → Hp → VK → Prop := fun x xs H Q => ∃ p ys k, x = .ref p ∧ xs = [k] ∧ SqL K H p ys ∧ flatV k = true ∧ ys.all flatV = true ∧ Q (.int ((ys.countP fun y => eqV y k : Nat) : Int)) H
theorem mt_countV : MtR X "list.count" (oCount X.K) := by
  intro pins s σ H x xs v us Q I rx rxs h
  obtain ⟨p, ys, k, rfl, rfl, hs, fk, fy, q⟩ := h
  cases rx
  obtain ⟨u, rfl, ru⟩ := rxs.one
  obtain ⟨its, rv, ⟨⟨cls, dd, data, sl⟩, n, ho, hc, hdn, hd⟩, hlen⟩ := I.list hs
  simp only at hc hd
  subst hc hd
  refine call_meets PySem.F.slot_list_count ⟨_, ho, rfl⟩ PySem.F.entry_list_count (PySem.F.args_list_count_2 _ _)
    (SeqAt.list_countAt p its.toArray n dd sl u (eqU k)) ⟨ho, fun y hy => mem_eqAt ru fk rv fy y (by simpa using hy), ?_⟩
  have e : its.toArray.toList.countP (eqU k) = ys.countP fun y => eqV y k := countP_eqU rv fy
  exact ⟨.int _, H, I.tok _, ⟨s.toks, by rw [e]⟩, q⟩
end
end LT

set_option Elab.async false
set_option linter.all false
set_option maxRecDepth 100000
set_option maxHeartbeats 4000000
/-! LTb: what stands for what in a heap; loops by an invariant; steps. -/
namespace LT
open PySem PySem.Spec PyProof.Rows L2

/-! ### data and values -/
def vn (n : Nat) : V := .int (n : Int)
def Mono {α : Type} (R : α → V → Hp → Prop) : Prop := ∀ d v H H', Same H H' → R d v H → R d v H'
def rV : V → V → Hp → Prop := fun d v _ => v = d
def rI : Int → V → Hp → Prop := fun n v _ => v = .int n
theorem mono_rI : Mono rI := fun _ _ _ _ _ h => h
theorem all2_rI {H : Hp} : ∀ xs : List Int, Paired (fun d v => rI d v H) xs (xs.map V.int)
  | [] => .nil
  | x :: xs => .cons rfl (all2_rI xs)
def rN : Nat → V → Hp → Prop := fun n v _ => v = vn n
def rPath : List Nat → V → Hp → Prop := fun p v H => ∃ a, v = .ref a ∧ H a = some (.tup (p.map vn))
abbrev All2 {α : Type} (R : α → V → Hp → Prop) (ds : List α) (vs : List V) (H : Hp) : Prop := Paired (fun d v => R d v H) ds vs
/-- a list (read) of such data -/
def rLst (K : PySem.W.Frag) {α : Type} (R : α → V → Hp → Prop) : List α → V → Hp → Prop := fun ds v H => ∃ a vs, v = .ref a ∧ SqL K H a vs ∧ All2 R ds vs H
/-- a new list of such data -/
def nLst {α : Type} (R : α → V → Hp → Prop) (H0 : Hp) : List α → V → Hp → Prop := fun ds v H => ∃ a vs, v = .ref a ∧ H0 a = none ∧ H a = some (.lst vs) ∧ All2 R ds vs H
theorem mono_rV : Mono rV := fun _ _ _ _ _ h => h
theorem mono_rN : Mono rN := fun _ _ _ _ _ h => h
theorem mono_rPath : Mono rPath := fun _ _ _ _ s ⟨a, e, h⟩ => ⟨a, e, s _ _ h⟩
theorem All2.mono {α : Type} {R : α → V → Hp → Prop} (m : Mono R) {ds : List α} {vs : List V} {H H' : Hp} (s : Same H H') (h : All2 R ds vs H) : All2 R ds vs H' := Paired.mapP h fun d v r => m d v H H' s r
theorem mono_rLst {K : PySem.W.Frag} {α : Type} {R : α → V → Hp → Prop} (m : Mono R) : Mono (rLst K R) := fun _ _ _ _ s ⟨a, vs, e, h, r⟩ => ⟨a, vs, e, s.seq h, All2.mono m s r⟩
theorem nLst.rd {K : PySem.W.Frag} {α : Type} {R : α → V → Hp → Prop} {H0 H : Hp} {ds : List α} {v : V} (h : nLst R H0 ds v H) : rLst K R ds v H := let ⟨a, vs, e, _, q, r⟩ := h; ⟨a, vs, e, SqL.of q, r⟩
theorem All2.len {α : Type} {R : α → V → Hp → Prop} {ds : List α} {vs : List V} {H : Hp} (h : All2 R ds vs H) : ds.length = vs.length := Paired.length h
theorem All2.get {α : Type} {R : α → V → Hp → Prop} : ∀ {ds : List α} {vs : List V} {H : Hp}, All2 R ds vs H → ∀ {i : Nat} {v : V}, vs[i]? = some v → ∃ d, ds[i]? = some d ∧ R d v H
  | _, _, _, .nil, i, v, e => by simp at e
  | _, _, _, .cons r t, 0, v, e => by simp at e; subst e; exact ⟨_, rfl, r⟩
  | _, _, _, .cons r t, i + 1, v, e => by
    obtain ⟨d, h1, h2⟩ := All2.get (R := R) t (i := i) (v := v) (by simpa using e)
    exact ⟨d, by simpa using h1, h2⟩
theorem All2.get' {α : Type} {R : α → V → Hp → Prop} : ∀ {ds : List α} {vs : List V} {H : Hp}, All2 R ds vs H → ∀ {i : Nat} {d : α}, ds[i]? = some d → ∃ v, vs[i]? = some v ∧ R d v H
  | _, _, _, .nil, i, v, e => by simp at e
  | _, _, _, .cons r t, 0, v, e => by simp at e; subst e; exact ⟨_, rfl, r⟩
  | _, _, _, .cons r t, i + 1, v, e => by
    obtain ⟨d, h1, h2⟩ := All2.get' (R := R) t (i := i) (d := v) (by simpa using e)
    exact ⟨d, by simpa using h1, h2⟩
theorem All2.snoc {α : Type} {R : α → V → Hp → Prop} : ∀ {ds : List α} {vs : List V} {H : Hp} {d : α} {v : V}, All2 R ds vs H → R d v H → All2 R (ds ++ [d]) (vs ++ [v]) H
  | _, _, _, _, _, .nil, h => .cons h .nil
  | _, _, _, _, _, .cons r t, h => .cons r (All2.snoc t h)
theorem All2.append {α : Type} {R : α → V → Hp → Prop} : ∀ {ds es : List α} {vs us : List V} {H : Hp}, All2 R ds vs H → All2 R es us H → All2 R (ds ++ es) (vs ++ us) H
  | _, _, _, _, _, .nil, h => h
  | _, _, _, _, _, .cons r t, h => .cons r (All2.append t h)
theorem all2_rV {H : Hp} : ∀ xs : List V, All2 rV xs xs H
  | [] => .nil
  | x :: xs => .cons rfl (all2_rV xs)
theorem of_rV {H : Hp} : ∀ {xs ys : List V}, All2 rV xs ys H → ys = xs
  | _, _, .nil => rfl
  | x :: xs, y :: ys, .cons e t => by
    have e' : y = x := e
    rw [e', of_rV t]
theorem of_rN {H : Hp} : ∀ {xs : List Nat} {ys : List V}, All2 rN xs ys H → ys = xs.map vn
  | _, _, .nil => rfl
  | x :: xs, y :: ys, .cons e t => by
    have e' : y = vn x := e
    rw [e', of_rN t]; rfl
theorem all2_rN {H : Hp} : ∀ xs : List Nat, All2 rN xs (xs.map vn) H
  | [] => .nil
  | x :: xs => .cons rfl (all2_rN xs)

/-! ### walks over data -/
/-- J goes through values that stand for ds, over any heap that has what H0 has -/
structure DW {α : Type} (J : It) (ds : List α) (R : α → V → Hp → Prop) (H0 : Hp) : Prop where
  w : Walk J ds.length (fun H => Same H0 H) (fun i H x H' => Same H H' ∧ ∃ d, ds[i]? = some d ∧ R d x H')
def ForJ (J : It) (g : TG) (tb : TS) (D : Ends) (σ : L2.St) (H1 : Hp) : Prop := ∃ W : Nat → Nat → L2.St → Hp → Prop, (∃ m, W 0 m σ H1) ∧ ∀ i m σ H, W i m σ H →
  (J.stop i H ∧ D.nx σ H) ∨ (J.go i H ∧ ∃ N : L2.St → Hp → Prop, (∀ σ' H', N σ' H' → ∃ m', m' < m ∧ W (i + 1) m' σ' H') ∧ ∀ x H', J.yld i H x H' → g x σ H' fun σ2 H2 => tb { D with nx := N, ct := N, bk := D.nx } σ2 H2)
def LcJ (J : It) (g : TG) (tt : TT) (te : TE) (vs : List Nat) (σ : L2.St) (H1 : Hp) (Q : Addr → Hp → Prop) : Prop := ∀ D, H1 D = none → ∃ W : Nat → Nat → Hp → Prop, (∃ m, W 0 m (upd H1 D (.lst []))) ∧ ∀ i m H, W i m H →
  (J.stop i H ∧ Q D H) ∨ (J.go i H ∧ ∃ Nx : Hp → Prop, (∀ H', Nx H' → ∃ m', m' < m ∧ W (i + 1) m' H') ∧ ∀ x H', J.yld i H x H' → g x (wipe σ vs) H' fun σ2 H2 => wipe σ2 vs = wipe σ vs ∧ tt σ2 H2 fun b H3 =>
    if b = true then te σ2 H3 fun y H4 => ∃ acc, H4 D = some (.lst acc) ∧ acc.length < sizeLine ∧ Nx (upd H4 D (.lst (acc ++ [y]))) else Nx H3)
theorem cut_map {ns : List Int} {lo hi : Option Int} : ∃ ms : List Int, L2.cutV (ns.map V.int) lo hi = ms.map V.int ∧ ms.length ≤ ns.length := by
  refine ⟨(ns.drop (HT.sIx (ns.map V.int).length 0 lo)).take (HT.sIx (ns.map V.int).length (ns.map V.int).length hi - HT.sIx (ns.map V.int).length 0 lo), ?_, ?_⟩
  · unfold L2.cutV
    rw [List.map_take, List.map_drop]
  · rw [List.length_take, List.length_drop]; omega
theorem same_new {H : Hp} {p : Addr} {o : HO} (h : H p = none) : Same H (upd H p o) := fun b u e => by
  rw [upd_ne (ne_of_none e h)]; exact e
/-- an object that H0 does not know changes -/
theorem same_upd {H0 H : Hp} {p : Addr} {o : HO} (s : Same H0 H) (h : H0 p = none) : Same H0 (upd H p o) := fun b u e => by
  rw [upd_ne (ne_of_none e h)]; exact s b u e
theorem take_snoc {α : Type} {ds : List α} {i : Nat} {d : α} (h : ds[i]? = some d) : ds.take (i + 1) = ds.take i ++ [d] := by
  rw [List.take_succ, h]; rfl
theorem take_split {α : Type} {ds : List α} {i : Nat} {d : α} (h : ds[i]? = some d) : ds = ds.take i ++ d :: ds.drop (i + 1) := by
  have hi : i < ds.length := (List.getElem?_eq_some_iff.mp h).1
  have : ds[i] = d := (List.getElem?_eq_some_iff.mp h).2
  rw [← this, List.getElem_cons_drop, List.take_append_drop]
section
variable {α : Type} {R : α → V → Hp → Prop} {J : It} {ds : List α} {H0 : Hp}
/-- a for; the word speaks of the data gone through -/
theorem DW.loop (dw : DW J ds R H0) {g : TG} {tb : TS} {D : Ends} {σ : L2.St} {H : Hp} (Pv : List α → L2.St → Hp → Prop) (h0 : Pv [] σ H) (stay : ∀ pre σ' H', Pv pre σ' H' → Same H0 H')
    (turn : ∀ pre d post v σ' H' H2, ds = pre ++ d :: post → Pv pre σ' H' → Same H' H2 → R d v H2 → g v σ' H2 fun σ2 H3 => tb { D with nx := Pv (pre ++ [d]), ct := Pv (pre ++ [d]), bk := D.nx } σ2 H3)
    (done : ∀ σ' H', Pv ds σ' H' → D.nx σ' H') : ForJ J g tb D σ H := by
  refine for_it dw.w (fun i σ' H' => Pv (ds.take i) σ' H') h0 (fun i σ' H' _ p => stay _ _ _ p) (fun i v σ' H' H2 hi p y => ?_) (fun σ' H' p => ?_)
  · obtain ⟨sm, d, hd, rd⟩ := y
    have t := turn _ d _ v σ' H' H2 (take_split hd) p sm rd
    rw [take_snoc hd]
    exact t
  · rw [List.take_length] at p
    exact done σ' H' p
/-- the heap without what stands at D -/
def off (D : Addr) (H : Hp) : Hp := fun b => if b = D then none else H b
theorem off_ne {D b : Addr} {H : Hp} (h : b ≠ D) : off D H b = H b := by unfold off; rw [if_neg h]
theorem off_same {D : Addr} {H : Hp} : Same (off D H) H := fun b o h => by
  by_cases e : b = D
  · rw [show off D H b = none by unfold off; rw [if_pos e]] at h; cases h
  · rwa [off_ne e] at h
theorem off_upd {D : Addr} {H : Hp} {o : HO} : Same (off D H) (upd H D o) := fun b u h => by
  by_cases e : b = D
  · rw [show off D H b = none by unfold off; rw [if_pos e]] at h; cases h
  · rw [off_ne e] at h; rw [upd_ne e]; exact h
theorem off_off {D : Addr} {H : Hp} {o : HO} : off D (upd H D o) = off D H := by
  funext b; unfold off; split
  · rfl
  · rename_i h; exact upd_ne h
theorem off_mono {D : Addr} {H H' : Hp} (s : Same H H') : Same (off D H) (off D H') := fun b o h => by
  by_cases e : b = D
  · rw [show off D H b = none by unfold off; rw [if_pos e]] at h; cases h
  · rw [off_ne e] at h ⊢; exact s b o h
/-- a comprehension: f tells which data give, e what they give, S what stands for it -/
theorem DW.lc {β : Type} (dw : DW J ds R H0) {g : TG} {tt : TT} {te : TE} {vs : List Nat} {σ : L2.St} {H : Hp} {Q : Addr → Hp → Prop} {S : β → V → Hp → Prop} (mS : Mono S) (f : α → Bool) (e : α → β) (sm0 : Same H0 H) (hl : ds.length ≤ 1000000)
    (turn : ∀ D d v H', H D = none → d ∈ ds → Same H H' → (∃ ys, H' D = some (.lst ys)) → R d v H' → ∀ (Y : V → Hp → Prop) (N : Hp → Prop), (f d = true → ∀ y H4, Same H' H4 → S (e d) y (off D H4) → Y y H4) → (f d = false → ∀ H3, Same H' H3 → N H3) →
      g v (wipe σ vs) H' fun σ2 H2 => wipe σ2 vs = wipe σ vs ∧ tt σ2 H2 fun b H3 => if b = true then te σ2 H3 Y else N H3)
    (done : ∀ l ys H', H l = none → Same H H' → H' l = some (.lst ys) → All2 S ((ds.filter f).map e) ys H' → Q l H') : LcJ J g tt te vs σ H Q := by
  intro D hD
  have sD : Same H (upd H D (.lst [])) := fun b o h => by rw [upd_ne (ne_of_none h hD)]; exact h
  refine lc_it dw.w (fun i H' => Same H H' ∧ ∃ ys, H' D = some (.lst ys) ∧ All2 S (((ds.take i).filter f).map e) ys (off D H')) ⟨sD, [], upd_same, .nil⟩ (fun i H' _ p => sm0.trans p.1) (fun i v H' H2 hi p y => ?_) (fun H' p => ?_)
  · obtain ⟨sm, d, hd, rd⟩ := y
    obtain ⟨s1, ys, h1, h2⟩ := p
    have hm : d ∈ ds := List.mem_of_getElem? hd
    refine turn D d v H2 hD hm (s1.trans sm) ⟨ys, sm _ _ h1⟩ rd _ _ (fun hf w H4 s4 hS => ?_) (fun hf H3 s3 => ?_)
    · have g1 : H4 D = some (.lst ys) := s4 _ _ (sm _ _ h1)
      have hlen : ys.length ≤ ds.length := by
        rw [← h2.len, List.length_map]
        exact Nat.le_trans (List.length_filter_le _ _) (by rw [List.length_take]; omega)
      have hz : ys.length < sizeLine := by have := sizeLine_eq; omega
      have s5 : Same H (upd H4 D (.lst (ys ++ [w]))) := fun b o h => by
        rw [upd_ne (ne_of_none h hD)]
        exact s4 _ _ (sm _ _ (s1 _ _ h))
      refine ⟨ys, g1, hz, s5, ys ++ [w], upd_same, ?_⟩
      rw [take_snoc hd, List.filter_append, List.map_append, off_off]
      have e1 : [d].filter f = [d] := by simp [hf]
      rw [e1]
      exact All2.snoc (All2.mono mS (off_mono (sm.trans s4)) h2) hS
    · refine ⟨s1.trans (sm.trans s3), ys, s3 _ _ (sm _ _ h1), ?_⟩
      rw [take_snoc hd, List.filter_append, List.map_append]
      have e1 : [d].filter f = [] := by simp [hf]
      rw [e1]
      simpa using All2.mono mS (off_mono (sm.trans s3)) h2
  · rw [List.take_length] at p
    obtain ⟨s1, ys, h1, h2⟩ := p
    exact done D ys H' hD s1 h1 (All2.mono mS off_same h2)
/-- S leans on tuples alone -/
def MonoT {β : Type} (S : β → V → Hp → Prop) : Prop := ∀ d v H H', (∀ b xs, H b = some (.tup xs) → H' b = some (.tup xs)) → S d v H → S d v H'
theorem monoT_rV : MonoT rV := fun _ _ _ _ _ h => h
theorem monoT_rN : MonoT rN := fun _ _ _ _ _ h => h
theorem monoT_rI : MonoT rI := fun _ _ _ _ _ h => h
theorem monoT_rPath : MonoT rPath := fun _ _ _ _ s ⟨a, e, h⟩ => ⟨a, e, s _ _ h⟩
theorem MonoT.mono {β : Type} {S : β → V → Hp → Prop} (m : MonoT S) : Mono S := fun d v H H' s h => m d v H H' (fun b xs e => s b _ e) h
theorem DW.lcT {β : Type} (dw : DW J ds R H0) {g : TG} {tt : TT} {te : TE} {vs : List Nat} {σ : L2.St} {H : Hp} {Q : Addr → Hp → Prop} {S : β → V → Hp → Prop} (mS : MonoT S) (f : α → Bool) (e : α → β) (sm0 : Same H0 H) (hl : ds.length ≤ 1000000)
    (turn : ∀ d v H', d ∈ ds → Same H H' → R d v H' → ∀ (Y : V → Hp → Prop) (N : Hp → Prop), (f d = true → ∀ y H4, Same H' H4 → S (e d) y H4 → Y y H4) → (f d = false → ∀ H3, Same H' H3 → N H3) →
      g v (wipe σ vs) H' fun σ2 H2 => wipe σ2 vs = wipe σ vs ∧ tt σ2 H2 fun b H3 => if b = true then te σ2 H3 Y else N H3)
    (done : ∀ l ys H', H l = none → Same H H' → H' l = some (.lst ys) → All2 S ((ds.filter f).map e) ys H' → Q l H') : LcJ J g tt te vs σ H Q :=
  dw.lc mS.mono f e sm0 hl (fun D d v H' hD hm sm hq rd Y N hY hN => turn d v H' hm sm rd Y N (fun hf y H4 s4 hS => hY hf y H4 s4 (mS _ _ _ _ (fun b xs hb => by
    obtain ⟨ys, hq⟩ := hq
    have hne : b ≠ D := fun z => by
      subst z
      rw [s4 _ _ hq] at hb
      cases hb
    rw [off_ne hne]; exact hb) hS)) hN) done
end
/-! ### the walks -/
theorem dw_list {α : Type} {R : α → V → Hp → Prop} (m : Mono R) {K : PySem.W.Frag} {a : Addr} {vs : List V} {ds : List α} {H0 : Hp} (hl : SqL K H0 a vs) (hr : All2 R ds vs H0) : DW (Itl K a) ds R H0 := by
  have e := hr.len
  refine ⟨?_⟩
  rw [e]
  refine walk_list.mono (fun H s => s.seq hl) fun i H x H' _ s y => ?_
  obtain ⟨rfl, y⟩ := y
  obtain ⟨d, h1, h2⟩ := (All2.mono m s hr).get y
  exact ⟨Same.refl _, d, h1, h2⟩
theorem sameT {K : PySem.W.Frag} {H H' : Hp} {a : Addr} {xs : List V} (e : Same H H') (h : SqT K H a xs) : SqT K H' a xs := by
  rcases h with (h | ⟨o, h⟩) | h
  · exact .inl (.inl (e _ _ h))
  · exact .inl (.inr ⟨o, e _ _ h⟩)
  · exact .inr h
theorem dw_tup {α : Type} {R : α → V → Hp → Prop} (m : Mono R) {K : PySem.W.Frag} {a : Addr} {vs : List V} {ds : List α} {H0 : Hp} (hl : SqT K H0 a vs) (hr : All2 R ds vs H0) : DW (Itt K a) ds R H0 := by
  have e := hr.len
  refine ⟨?_⟩
  rw [e]
  refine walk_tup.mono (fun H s => sameT s hl) fun i H x H' _ s y => ?_
  obtain ⟨rfl, y⟩ := y
  obtain ⟨d, h1, h2⟩ := (All2.mono m s hr).get y
  exact ⟨Same.refl _, d, h1, h2⟩
theorem dw_range {n : Nat} {H0 : Hp} : DW (Itr 0 n) (List.range n) rN H0 := by
  refine ⟨?_⟩
  rw [List.length_range]
  refine walk_range.mono (fun H s => trivial) fun i H x H' hi s y => ?_
  obtain ⟨rfl, rfl⟩ := y
  refine ⟨Same.refl _, i, by simp [hi], ?_⟩
  show V.int ((0 : Int) + (i : Int)) = V.int (i : Int)
  rw [Int.zero_add]
theorem dw_str {z : PySem.Str} {H0 : Hp} : DW (Its z) z.cps.toList (fun (c : Nat) v _ => v = .str ⟨#[c]⟩) H0 := by
  refine ⟨?_⟩
  rw [show z.cps.toList.length = z.cps.size by simp]
  refine walk_str.mono (fun H s => trivial) fun i H x H' hi s y => ?_
  obtain ⟨rfl, c, h1, h2⟩ := y
  exact ⟨Same.refl _, c, by rw [← h1]; simp, h2⟩
/-- for .. in a list -/
theorem for_rl {α : Type} {R : α → V → Hp → Prop} {K : PySem.W.Frag} {g : TG} {tb : TS} {D : Ends} {σ : L2.St} {a : Addr} {vs : List V} {H H0 : Hp} {ds : List α} (m : Mono R) (hl : SqL K H0 a vs) (hr : All2 R ds vs H0) (Pv : List α → L2.St → Hp → Prop) (h0 : Pv [] σ H)
    (stay : ∀ pre σ' H', Pv pre σ' H' → Same H0 H') (turn : ∀ pre d post v σ' H', ds = pre ++ d :: post → Pv pre σ' H' → R d v H' → g v σ' H' fun σ2 H3 => tb { D with nx := Pv (pre ++ [d]), ct := Pv (pre ++ [d]), bk := D.nx } σ2 H3)
    (done : ∀ σ' H', Pv ds σ' H' → D.nx σ' H') : (∃ xs, SqL K H a xs) ∧ ForJ (Itl K a) g tb D σ H := by
  have hlen := hr.len
  refine ⟨⟨vs, (stay _ _ _ h0).seq hl⟩, for_list (xs := vs) (fun i σ' H' => Pv (ds.take i) σ' H') h0 (fun i σ' H' _ p => (stay _ _ _ p).seq hl) (fun i v σ' H' e p => ?_) (fun σ' H' p => ?_)⟩
  · obtain ⟨d, hd, rd⟩ := hr.get e
    have t := turn _ d _ v σ' H' (take_split hd) p (m _ _ _ _ (stay _ _ _ p) rd)
    rw [take_snoc hd]
    exact t
  · rw [← hlen, List.take_length] at p
    exact done σ' H' p
/-- for k in range(n) -/
theorem for_rg {g : TG} {tb : TS} {D : Ends} {σ : L2.St} {H : Hp} {n : Int} (hn : -1000000 ≤ n ∧ n ≤ 1000000) (Pv : Nat → L2.St → Hp → Prop) (h0 : Pv 0 σ H)
    (turn : ∀ (i : Nat) σ' H', (i : Int) < n → Pv i σ' H' → g (vn i) σ' H' fun σ2 H2 => tb { D with nx := Pv (i + 1), ct := Pv (i + 1), bk := D.nx } σ2 H2)
    (done : ∀ σ' H', Pv n.toNat σ' H' → D.nx σ' H') : -(2 ^ 62) ≤ n ∧ n < 2 ^ 62 ∧ ForJ (Itr 0 n.toNat) g tb D σ H := by
  refine ⟨by omega, by omega, for_range (lo := 0) (n := n.toNat) Pv h0 (fun i σ' H' hi p => ?_) done⟩
  have t := turn i σ' H' (by omega) p
  have e : (0 : Int) + (i : Int) = (i : Int) := Int.zero_add _
  show g (V.int (0 + (i : Int))) σ' H' _
  rw [e]
  exact t
/-- [.. for .. in a list], [.. for .. in range(n)], [.. for .. in a text] -/
theorem lc_rl {α β : Type} {R : α → V → Hp → Prop} {S : β → V → Hp → Prop} {K : PySem.W.Frag} {g : TG} {tt : TT} {te : TE} {vs : List Nat} {σ : L2.St} {a : Addr} {xs : List V} {H : Hp} {Q : Addr → Hp → Prop} {ds : List α} (m : Mono R) (h1 : SqL K H a xs) (h2 : All2 R ds xs H) (mS : MonoT S) (f : α → Bool) (e : α → β) (hl : ds.length ≤ 1000000)
    (turn : ∀ d v H', d ∈ ds → Same H H' → R d v H' → ∀ (Y : V → Hp → Prop) (N : Hp → Prop), (f d = true → ∀ y H4, Same H' H4 → S (e d) y H4 → Y y H4) → (f d = false → ∀ H3, Same H' H3 → N H3) →
      g v (wipe σ vs) H' fun σ2 H2 => wipe σ2 vs = wipe σ vs ∧ tt σ2 H2 fun b H3 => if b = true then te σ2 H3 Y else N H3)
    (done : ∀ l ys H', H l = none → Same H H' → H' l = some (.lst ys) → All2 S ((ds.filter f).map e) ys H' → Q l H') : (∃ xs, SqL K H a xs) ∧ LcJ (Itl K a) g tt te vs σ H Q := by
  exact ⟨⟨xs, h1⟩, (dw_list m h1 h2).lcT mS f e (Same.refl _) hl turn done⟩
theorem lc_rg {β : Type} {S : β → V → Hp → Prop} {g : TG} {tt : TT} {te : TE} {ws : List Nat} {σ : L2.St} {H : Hp} {Q : Addr → Hp → Prop} {n : Nat} (hn : n ≤ 1000000) (mS : MonoT S) (f : Nat → Bool) (e : Nat → β)
    (turn : ∀ d H', d < n → Same H H' → ∀ (Y : V → Hp → Prop) (N : Hp → Prop), (f d = true → ∀ y H4, Same H' H4 → S (e d) y H4 → Y y H4) → (f d = false → ∀ H3, Same H' H3 → N H3) →
      g (vn d) (wipe σ ws) H' fun σ2 H2 => wipe σ2 ws = wipe σ ws ∧ tt σ2 H2 fun b H3 => if b = true then te σ2 H3 Y else N H3)
    (done : ∀ l ys H', H l = none → Same H H' → H' l = some (.lst ys) → All2 S (((List.range n).filter f).map e) ys H' → Q l H') : -(2 ^ 62) ≤ (n : Int) ∧ (n : Int) < 2 ^ 62 ∧ LcJ (Itr 0 (n : Int).toNat) g tt te ws σ H Q :=
  ⟨by omega, by omega, (dw_range (n := n) (H0 := H)).lcT mS f e (Same.refl _) (by rw [List.length_range]; exact hn) (fun d v H' hd s r Y N hY hN => by
    have e1 : v = vn d := r
    subst e1
    exact turn d H' (List.mem_range.mp hd) s Y N hY hN) done⟩
theorem lc_rs {β : Type} {S : β → V → Hp → Prop} {g : TG} {tt : TT} {te : TE} {vs : List Nat} {σ : L2.St} {H : Hp} {Q : Addr → Hp → Prop} {z : PySem.Str} (mS : MonoT S) (f : Nat → Bool) (e : Nat → β) (hl : z.cps.toList.length ≤ 1000000)
    (turn : ∀ d H', d ∈ z.cps.toList → Same H H' → ∀ (Y : V → Hp → Prop) (N : Hp → Prop), (f d = true → ∀ y H4, Same H' H4 → S (e d) y H4 → Y y H4) → (f d = false → ∀ H3, Same H' H3 → N H3) →
      g (.str ⟨#[d]⟩) (wipe σ vs) H' fun σ2 H2 => wipe σ2 vs = wipe σ vs ∧ tt σ2 H2 fun b H3 => if b = true then te σ2 H3 Y else N H3)
    (done : ∀ l ys H', H l = none → Same H H' → H' l = some (.lst ys) → All2 S ((z.cps.toList.filter f).map e) ys H' → Q l H') : LcJ (Its z) g tt te vs σ H Q :=
  (dw_str (z := z) (H0 := H)).lcT mS f e (Same.refl _) hl (fun d v H' hd s r Y N hY hN => by
    have e1 : v = .str ⟨#[d]⟩ := r
    subst e1
    exact turn d H' hd s Y N hY hN) done

/-! ### the start of a def -/
theorem start_eq {N : List PySem.Str} {n : Nat} (hN : N.length = n) (vs : List V) : L2.start N vs = vs.map some ++ List.replicate (n - vs.length) none := by
  unfold L2.start
  rw [hN]
/-- what is wanted of a def's body -/
abbrev endsOf (Q : VK) : Ends := { nx := fun _ H' => Q .non H', rt := Q }
end LT

set_option Elab.async false
set_option linter.all false
set_option maxRecDepth 100000
set_option maxHeartbeats 4000000
namespace LT
open PySem PySem.Spec PyProof.Rows L2
local macro_rules | `(tactic| got_up) => `(tactic| repeat (first
  | refine ⟨_, rfl, ?_⟩
  | refine ⟨_, _, rfl, rfl, ?_⟩
  | refine ⟨rfl, ?_⟩
  | refine ⟨(.inl ⟨by decide, by decide⟩ : CMul _ _), ?_⟩
  | refine ⟨(by show (0 : Int) < _; first | decide | omega), ?_⟩
  | refine ⟨(⟨by first | decide | omega, by first | decide | omega⟩ : CDiv _ _), ?_⟩))
/-! LTc: votes, signs, the small defs of a law. -/
/-- a sign, or None -/
def SignV (v : V) : Prop := v = .non ∨ ∃ s, v = .str s
def cntV (ss : List V) (v : V) : Nat := ss.countP fun y => eqV y v
def majV (ss : List V) (v : V) : Prop := (ss.length : Int) < 2 * (cntV ss v : Int)
instance (ss : List V) (v : V) : Decidable (majV ss v) := by unfold majV; infer_instance
def voteM (ss : List V) : V := (ss.find? fun v => decide (majV ss v)).getD .non
theorem SignV.flat {v : V} (h : SignV v) : flatV v = true := by
  rcases h with rfl | ⟨s, rfl⟩ <;> rfl
theorem flats {ss : List V} (h : ∀ v ∈ ss, SignV v) : ss.all flatV = true := List.all_eq_true.mpr fun v hv => (h v hv).flat
theorem voteM_at {ss pre post : List V} {v : V} (e : ss = pre ++ v :: post) (hp : ∀ x ∈ pre, ¬ majV ss x) (m : majV ss v) : voteM ss = v := by
  unfold voteM
  have h1 : ss.find? (fun v => decide (majV ss v)) = some v := by
    rw [List.find?_eq_some_iff_append]
    exact ⟨decide_eq_true m, pre, post, e, fun x hx => by simpa using hp x hx⟩
  rw [h1]
  rfl
theorem voteM_none {ss : List V} (hp : ∀ x ∈ ss, ¬ majV ss x) : voteM ss = .non := by
  unfold voteM
  rw [List.find?_eq_none.mpr fun x hx => by simpa using hp x hx]
  rfl
theorem voteM_sign {ss : List V} (h : ∀ v ∈ ss, SignV v) : SignV (voteM ss) := by
  unfold voteM
  cases e : ss.find? (fun v => decide (majV ss v)) with
  | none => exact .inl rfl
  | some v => exact h v (List.mem_of_find?_eq_some e)
def cellM (ns : List Int) (k : Nat) : Int := ns.getD k 0
def lts : PySem.Str := "abcdefghijklmnopqrstuvwxyz"
theorem lts_list : lts.cps.toList = (List.range 26).map fun i => 97 + i := by decide +kernel
theorem lts_at {i : Int} (h0 : 0 ≤ i) (h1 : i < 26) : ∃ c, atI lts.cps.toList i = some c ∧ c ∈ lts.cps.toList := by
  obtain ⟨n, rfl⟩ := Int.eq_ofNat_of_zero_le h0
  have hn : n < 26 := by omega
  refine ⟨97 + n, atI_nat ?_, ?_⟩
  · rw [lts_list]; simp [hn]
  · rw [lts_list]; exact List.mem_map.mpr ⟨n, List.mem_range.mpr hn, rfl⟩
def LowS (s : PySem.Str) : Prop := ∀ c ∈ s.cps.toList, c ∈ lts.cps.toList
def GoodS (s : PySem.Str) : Prop := 1 ≤ s.length ∧ s.length ≤ 8 ∧ LowS s
theorem len_one (c : Nat) : (⟨#[c]⟩ : PySem.Str).length = 1 := rfl
theorem low_one {c : Nat} (h : c ∈ lts.cps.toList) : LowS ⟨#[c]⟩ := fun d hd => by
  have e : d = c := by simpa using hd
  rw [e]; exact h
theorem low_rep {s : PySem.Str} {n : Nat} (h : LowS s) : LowS (repS s n) := fun d hd => by
  rw [repS_list] at hd
  simp only [List.mem_flatten, List.mem_replicate] at hd
  obtain ⟨l, ⟨_, rfl⟩, hd⟩ := hd
  exact h d hd
theorem cat_list (s t : PySem.Str) : (s ++ t).cps.toList = s.cps.toList ++ t.cps.toList := by
  show (s.cps ++ t.cps).toList = _
  simp
theorem cat_len (s t : PySem.Str) : (s ++ t).length = s.length + t.length := by
  rw [Str.len_eq, cat_list, List.length_append, ← Str.len_eq, ← Str.len_eq]
theorem low_cat {s t : PySem.Str} (hs : LowS s) (ht : LowS t) : LowS (s ++ t) := fun d hd => by
  rw [cat_list] at hd
  rcases List.mem_append.mp hd with h | h
  · exact hs d h
  · exact ht d h
theorem line8 {n : Nat} (h : n ≤ 100000) : n ≤ sizeLine := Nat.le_trans h (by decide)

/-! ### flat values as data -/
def pd : V → PyData
  | .bl b => .bool b
  | .int i => .int i
  | .str x => .str x
  | _ => .none
theorem dp_pd {K : PySem.W.Frag} {H : Hp} {v : V} (h : flatV v = true) : Dp K H v (pd v) := by
  cases v with
  | non => exact .non
  | bl b => exact .bl b
  | int i => exact .int i
  | str x => exact .str x
  | _ => cases h
theorem dpAll_pd {K : PySem.W.Frag} {H : Hp} : ∀ {vs : List V}, vs.all flatV = true → DpAll K H vs (vs.map pd)
  | [], _ => .nil
  | v :: vs, h => by
    rw [List.all_cons, Bool.and_eq_true] at h
    exact .cons (dp_pd h.1) (dpAll_pd h.2)
theorem lay_all : ∀ {ds : List PyData}, (∀ d ∈ ds, d.canLay0 = true) → PyData.canLayAll0 ds = true
  | [], _ => rfl
  | d :: ds, h => by
    show (PyData.canLay0 d && PyData.canLayAll0 ds) = true
    rw [h d (by simp), lay_all fun x hx => h x (by simp [hx])]
    rfl
theorem depth_all {n : Nat} : ∀ {ds : List PyData}, (∀ d ∈ ds, d.depth ≤ n) → PyData.depthAll ds ≤ n
  | [], _ => Nat.zero_le _
  | d :: ds, h => by
    show max (PyData.depth d) (PyData.depthAll ds) ≤ n
    exact Nat.max_le.mpr ⟨h d (by simp), depth_all fun x hx => h x (by simp [hx])⟩
/-- may be compared, n deep at most -/
def Lay (n : Nat) (d : PyData) : Prop := d.canLay0 = true ∧ d.depth ≤ n
theorem Lay.list {n : Nat} {ds : List PyData} (h : ∀ d ∈ ds, Lay n d) : Lay (n + 1) (.list ds) := ⟨lay_all fun d hd => (h d hd).1, Nat.succ_le_succ (depth_all fun d hd => (h d hd).2)⟩
theorem Lay.tuple {n : Nat} {ds : List PyData} (h : ∀ d ∈ ds, Lay n d) : Lay (n + 1) (.tuple ds) := ⟨lay_all fun d hd => (h d hd).1, Nat.succ_le_succ (depth_all fun d hd => (h d hd).2)⟩
theorem Lay.shaped {n : Nat} {d : PyData} (h : Lay n d) (hn : n ≤ 64) : SeqAt.shaped d = true := by
  unfold SeqAt.shaped
  rw [h.1, decide_eq_true (Nat.le_trans h.2 hn)]
  rfl
theorem Lay.int {n : Nat} {i : Int} : Lay n (.int i) := ⟨rfl, Nat.zero_le _⟩
theorem lay_good {n : Nat} {s : PySem.Str} (h : LowS s) : Lay n (.str s) := ⟨by
  show PyData.strOk s = true
  unfold PyData.strOk
  rw [Array.all_eq_true']
  intro c hc
  have := h c (by simpa using hc)
  rw [lts_list] at this
  obtain ⟨i, hi, rfl⟩ := List.mem_map.mp this
  have := List.mem_range.mp hi
  exact decide_eq_true (by omega), Nat.zero_le _⟩
theorem SignG_lay {n : Nat} {v : V} (h : v = .non ∨ ∃ s, v = .str s ∧ LowS s) : Lay n (pd v) := by
  rcases h with rfl | ⟨s, rfl, h⟩
  · exact ⟨rfl, Nat.zero_le _⟩
  · exact lay_good h
/-- a good sign, or None -/
def SignG (v : V) : Prop := v = .non ∨ ∃ s, v = .str s ∧ GoodS s
theorem SignG.v {v : V} (h : SignG v) : SignV v := by
  rcases h with rfl | ⟨s, rfl, _⟩
  · exact .inl rfl
  · exact .inr ⟨s, rfl⟩
theorem SignG.lay {n : Nat} {v : V} (h : SignG v) : Lay n (pd v) := SignG_lay (by
  rcases h with rfl | ⟨s, rfl, h⟩
  · exact .inl rfl
  · exact .inr ⟨s, rfl, h.2.2⟩)
theorem voteM_good {ss : List V} (h : ∀ v ∈ ss, SignG v) : SignG (voteM ss) := by
  unfold voteM
  cases e : ss.find? (fun v => decide (majV ss v)) with
  | none => exact .inl rfl
  | some v => exact h v (List.mem_of_find?_eq_some e)
/-- what a law is asked -/
def sp_law (G : G3) : Sp := fun vs H Q _ => ∃ (a : Addr) (ns : List Int), vs = [.ref a] ∧ SqL G.K H a (ns.map V.int) ∧ ns.length ≤ 63 ∧ ∀ H', Q (.bl true) H'
def sp_vote (G : G3) : Sp := fun vs H Q _ => ∃ (a : Addr) (ss : List V), vs = [.ref a] ∧ SqL G.K H a ss ∧ (∀ v ∈ ss, SignV v) ∧ Q (voteM ss) H
def sp_l_cell_at (G : G3) : Sp := fun vs H Q _ => ∃ (a : Addr) (ns : List Int) (k : Nat), vs = [.ref a, .int (k : Int)] ∧ SqL G.K H a (ns.map V.int) ∧ Q (.int (cellM ns k)) H
def sp_l_same (G : G3) : Sp := fun vs H Q _ => ∃ v w : V, vs = [v, w] ∧ SignV v ∧ SignV w ∧ Q (.bl (decide (v = w))) H
def sp_l_signs (G : G3) : Sp := fun vs H Q _ => ∃ c : Int, vs = [.int c] ∧ ∀ (l : Addr) (ss : List PySem.Str) (H' : Hp), H l = none → Same H H' → ss.length = 4 → (∀ s ∈ ss, GoodS s) → H' l = some (.lst (ss.map V.str)) → Q (.ref l) H'
/-- vote: slots 0 signs 1 sign -/
def t_vote (G : G3) (E : XK) : TS :=
  (tSeq (tFor (iList G.K (tVar 0)) (gName 1) (tIfS (tTest (tOp oGt (tOp oMul (tC (.int 2)) (tBM G.K "list" (oCount G.K) (tVar 0) (tCons (tVar 1) tNil))) (tCB (oLen G.K) (tCons (tVar 0) tNil)))) (tRet (tVar 1)) tNext))
  (tRet (tC .non)))
/-- _law_cell_at: slots 0 _law_script 1 _law_k -/
def t_l_cell_at (G : G3) (E : XK) : TS :=
  (tSeq (tIfS (tTest (tOp oLt (tVar 1) (tCB (oLen G.K) (tCons (tVar 0) tNil)))) (tRet (tOp (rIxL G.K) (tVar 0) (tVar 1))) tNext)
  (tRet (tC (.int 0))))
/-- _law_same: slots 0 _law_found 1 _law_due -/
def t_l_same (G : G3) (E : XK) : TS :=
  (tSeq (tIfS (tTest (tOp oIsN (tVar 1) (tC .non))) (tRet (tOp oIsN (tVar 0) (tC .non))) tNext)
  (tRet (tAndV (tCB (rIsi G.K) (tCons (tVar 0) (tCons (tC (.ty "str")) tNil))) (tOp rEq (tVar 0) (tVar 1)))))
/-- _law_signs: slots 0 _law_cell 1 _law_letters 2 _law_size 3 _law_found 4 _law_k 5 _law_sign 6 _law_place 7 _law_ahead 8 _law_behind -/
def t_l_signs (G : G3) (E : XK) : TS :=
  (tSeq (tAsg (tC (.str ("abcdefghijklmnopqrstuvwxyz" : Str))) (gName 1))
  (tSeq (tAsg (tOp oAdd (tC (.int 1)) (tOp oMod (tOp oDiv (tVar 0) (tC (.int 3))) (tC (.int 8)))) (gName 2))
  (tSeq (tAsg (tLst tNil) (gName 3))
  (tSeq (tFor (iRng1 (tCons (tC (.int 4)) tNil)) (gName 4) (tSeq (tAsg (tOp rIxS (tVar 1) (tOp oMod (tOp oAdd (tOp oDiv (tVar 0) (tC (.int 24))) (tOp oMul (tC (.int 7)) (tVar 4))) (tC (.int 26)))) (gName 5))
  (tIfS (tTest (tOp rEq (tOp oMod (tVar 0) (tC (.int 3))) (tC (.int 0)))) (tDrop (tBM G.K "list" rAppend (tVar 3) (tCons (tOp oMulS (tOp rIxS (tVar 1) (tOp oMod (tOp oDiv (tVar 0) (tC (.int 24))) (tC (.int 26)))) (tOp oAdd (tC (.int 1)) (tOp oMul (tC (.int 2)) (tVar 4)))) tNil))) (tSeq (tAsg (tOp oMod (tOp oDiv (tVar 0) (tC (.int 5))) (tVar 2)) (gName 6))
  (tSeq (tAsg (tOp oMulS (tOp rIxS (tVar 1) (tVar 2)) (tVar 6)) (gName 7))
  (tSeq (tAsg (tOp oMulS (tOp rIxS (tVar 1) (tOp oAdd (tVar 2) (tOp oMod (tVar 0) (tC (.int 3))))) (tOp oSub (tOp oSub (tVar 2) (tC (.int 1))) (tVar 6))) (gName 8))
  (tDrop (tBM G.K "list" rAppend (tVar 3) (tCons (tOp oCatS (tOp oCatS (tVar 7) (tVar 5)) (tVar 8)) tNil)))))))))
  (tRet (tVar 3))))))
section
variable {G : G3} {N : List PySem.Str} {vs : List V} {H : Hp} {Q : VK} {E : XK}
theorem pure_vote (hN : N.length = 2) (h : sp_vote G vs H Q E) : t_vote G E (endsOf Q) (L2.start N vs) H := by
  obtain ⟨a, ss, rfl, hs, hv, q⟩ := h
  rw [start_eq hN]
  got_up
  refine for_rl (R := rV) (ds := ss) (K := G.K) mono_rV hs (all2_rV ss) (fun pre σ' H' => (∃ v, σ' = [some (.ref a), v]) ∧ H' = H ∧ ∀ x ∈ pre, ¬ majV ss x) ⟨⟨none, rfl⟩, rfl, by simp⟩ (fun _ _ _ p => by rw [p.2.1]; exact Same.refl _) ?_ ?_
  · rintro pre d post v σ' H' e ⟨⟨v', rfl⟩, rfl, hp⟩ rfl
    have hd : v ∈ ss := by rw [e]; simp
    got_up
    refine ⟨.inl ⟨rfl, _, hs⟩, ?_⟩
    got_up
    refine ⟨a, ss, _, rfl, rfl, hs, (hv _ hd).flat, flats hv, ?_⟩
    got_up
    refine ⟨a, ss, rfl, .inl hs, ?_⟩
    got_up
    refine ite2 (fun c => ?_) (fun c => ?_)
    · have m : majV ss v := of_decide_eq_true c
      got_up
      rw [voteM_at e hp m] at q
      exact q
    · have m : ¬ majV ss v := fun z => c (decide_eq_true z)
      refine ⟨⟨some v, rfl⟩, rfl, fun x hx => ?_⟩
      rcases List.mem_append.mp hx with h | h
      · exact hp x h
      · rw [List.mem_singleton.mp h]; exact m
  · rintro σ' H' ⟨⟨v', rfl⟩, rfl, hp⟩
    rw [voteM_none hp] at q
    exact q
theorem pure_l_cell_at (hN : N.length = 2) (h : sp_l_cell_at G vs H Q E) : t_l_cell_at G E (endsOf Q) (L2.start N vs) H := by
  obtain ⟨a, ns, k, rfl, hs, q⟩ := h
  rw [start_eq hN]
  got_up
  refine ⟨a, _, rfl, .inl hs, ?_⟩
  got_up
  have hlen : (ns.map V.int).length = ns.length := List.length_map ..
  refine ite2 (fun c => ?_) (fun c => ?_)
  · have c' : (k : Int) < ((ns.map V.int).length : Int) := of_decide_eq_true c
    have hk : k < ns.length := by omega
    got_up
    refine ⟨a, ns.map V.int, _, .int (cellM ns k), rfl, rfl, hs, atI_nat ?_, q⟩
    unfold cellM
    simp [hk]
  · have c' : ¬ (k : Int) < ((ns.map V.int).length : Int) := fun z => c (decide_eq_true z)
    have e : cellM ns k = 0 := by
      unfold cellM
      simp [List.getElem?_eq_none_iff.mpr (show ns.length ≤ k by omega)]
    rw [e] at q
    exact q
theorem pure_l_same (hN : N.length = 2) (h : sp_l_same G vs H Q E) : t_l_same G E (endsOf Q) (L2.start N vs) H := by
  obtain ⟨v, w, rfl, hv, hw, q⟩ := h
  rw [start_eq hN]
  got_up
  rcases hw with rfl | ⟨s, rfl⟩
  · refine iteT ?_
    got_up
    exact q
  · refine iteF ?_
    got_up
    rcases hv with rfl | ⟨t, rfl⟩
    · refine ⟨_, _, _, _, false, rfl, .ty _, .base .non, kit_ty (by decide +kernel), ?_⟩
      got_up
      exact iteF q
    · refine ⟨_, _, _, _, true, rfl, .ty _, .base (.str _), kit_ty (by decide +kernel), ?_⟩
      got_up
      exact q
theorem pure_l_signs (hN : N.length = 9) (h : sp_l_signs G vs H Q E) : t_l_signs G E (endsOf Q) (L2.start N vs) H := by
  obtain ⟨c, rfl, q⟩ := h
  rw [start_eq hN]
  got_up
  refine ⟨Nat.zero_le _, fun f nf => ?_⟩
  got_up
  have hz1 : 0 ≤ c / 3 % 8 := Int.emod_nonneg _ (by decide)
  have hz2 : c / 3 % 8 < 8 := Int.emod_lt_of_pos _ (by decide)
  have hL : ("abcdefghijklmnopqrstuvwxyz" : PySem.Str) = lts := rfl
  refine for_rg (n := 4) ⟨by decide, by decide⟩ (fun i σ' H' => (∃ v4 v5 v6 v7 v8, σ' = [some (.int c), some (.str lts), some (.int (1 + c / 3 % 8)), some (.ref f), v4, v5, v6, v7, v8]) ∧ Same H H' ∧ ∃ ss : List PySem.Str, ss.length = i ∧ (∀ s ∈ ss, GoodS s) ∧ H' f = some (.lst (ss.map V.str)))
    ⟨⟨none, none, none, none, none, rfl⟩, fun b o e => by rw [upd_ne (ne_of_none e nf)]; exact e, [], rfl, by simp, upd_same⟩ ?_ ?_
  · rintro i σ' H' hi ⟨⟨v4, v5, v6, v7, v8, rfl⟩, sm, ss, hl, hg, hf⟩
    have hz : ss.length ≤ 100000 := by omega
    have fin : ∀ (s : PySem.Str) (H2 : Hp), GoodS s → H2 = upd H' f (.lst (ss.map V.str ++ [.str s])) → Same H H2 ∧ ∃ ss' : List PySem.Str, ss'.length = i + 1 ∧ (∀ s ∈ ss', GoodS s) ∧ H2 f = some (.lst (ss'.map V.str)) := by
      rintro s H2 hs rfl
      refine ⟨fun b o e => by rw [upd_ne (ne_of_none e nf)]; exact sm b o e, ss ++ [s], by simp [hl], fun x hx => ?_, ?_⟩
      · rcases List.mem_append.mp hx with h | h
        · exact hg x h
        · rw [List.mem_singleton.mp h]; exact hs
      · rw [upd_same, List.map_append]; rfl
    have hm : (ss.map V.str).length < sizeLine := by
      rw [List.length_map]
      exact Nat.lt_of_le_of_lt (show ss.length ≤ 1000 by omega) (by decide)
    obtain ⟨c1, hc1, lc1⟩ := lts_at (i := (c / 24 + 7 * (i : Int)) % 26) (Int.emod_nonneg _ (by decide)) (Int.emod_lt_of_pos _ (by decide))
    got_up
    refine ⟨lts, _, c1, rfl, rfl, by decide, hc1, ?_⟩
    got_up
    refine ite2 (fun e => ?_) (fun e => ?_)
    · got_up
      refine ⟨.inl ⟨rfl, _, SqL.of hf⟩, ?_⟩
      obtain ⟨c2, hc2, lc2⟩ := lts_at (i := (c / 24) % 26) (Int.emod_nonneg _ (by decide)) (Int.emod_lt_of_pos _ (by decide))
      got_up
      refine ⟨lts, _, c2, rfl, rfl, by decide, hc2, ?_⟩
      got_up
      refine ⟨by rw [len_one]; decide, by omega, by omega, ?_⟩
      got_up
      refine ⟨f, _, _, rfl, rfl, hf, hm, ?_⟩
      refine ⟨⟨_, _, _, _, _, rfl⟩, fin _ _ ⟨?_, ?_, low_rep (low_one lc2)⟩ rfl⟩
      · rw [repS_len, len_one]; omega
      · rw [repS_len, len_one]; omega
    · have hz3 : 0 ≤ c / 5 % (1 + c / 3 % 8) := Int.emod_nonneg _ (by omega)
      have hz4 : c / 5 % (1 + c / 3 % 8) < 1 + c / 3 % 8 := Int.emod_lt_of_pos _ (by omega)
      have hz5 : 0 ≤ c % 3 := Int.emod_nonneg _ (by decide)
      have hz6 : c % 3 < 3 := Int.emod_lt_of_pos _ (by decide)
      got_up
      obtain ⟨c2, hc2, lc2⟩ := lts_at (i := 1 + c / 3 % 8) (by omega) (by omega)
      refine ⟨lts, _, c2, rfl, rfl, by decide, hc2, ?_⟩
      got_up
      refine ⟨by rw [len_one]; decide, by omega, by omega, ?_⟩
      got_up
      obtain ⟨c3, hc3, lc3⟩ := lts_at (i := 1 + c / 3 % 8 + c % 3) (by omega) (by omega)
      refine ⟨lts, _, c3, rfl, rfl, by decide, hc3, ?_⟩
      got_up
      refine ⟨by rw [len_one]; decide, by omega, by omega, ?_⟩
      got_up
      refine ⟨.inl ⟨rfl, _, SqL.of hf⟩, ?_⟩
      got_up
      refine ⟨by rw [repS_len, len_one, len_one]; exact line8 (by omega), ?_⟩
      got_up
      refine ⟨by rw [cat_len, repS_len, repS_len, len_one, len_one, len_one]; exact line8 (by omega), ?_⟩
      got_up
      refine ⟨f, _, _, rfl, rfl, hf, hm, ?_⟩
      refine ⟨⟨_, _, _, _, _, rfl⟩, fin _ _ ⟨?_, ?_, low_cat (low_cat (low_rep (low_one lc2)) (low_one lc1)) (low_rep (low_one lc3))⟩ rfl⟩
      · rw [cat_len, cat_len, repS_len, repS_len, len_one, len_one, len_one]; omega
      · rw [cat_len, cat_len, repS_len, repS_len, len_one, len_one, len_one]; omega
  · rintro σ' H' ⟨⟨v4, v5, v6, v7, v8, rfl⟩, sm, ss, hl, hg, hf⟩
    got_up
    exact q f ss H' nf sm hl hg hf
end
end LT

set_option Elab.async false
set_option linter.all false
set_option maxRecDepth 100000
set_option maxHeartbeats 4000000
namespace LT
open PySem PySem.Spec PyProof.Rows L2
local macro_rules | `(tactic| got_up) => `(tactic| repeat (first
  | refine ⟨_, rfl, ?_⟩
  | refine ⟨_, _, rfl, rfl, ?_⟩
  | refine ⟨rfl, ?_⟩
  | refine ⟨_, _, rfl, ?_⟩
  | refine ⟨(.inl ⟨by decide, by decide⟩ : CMul _ _), ?_⟩
  | refine ⟨(by show (0 : Int) < _; first | decide | omega), ?_⟩
  | refine ⟨(⟨by first | decide | omega, by first | decide | omega⟩ : CDiv _ _), ?_⟩))
/-! LT02: the law of votes. -/
/-- law: slots 0 _law_script 1 _law_signs_here 2 _law_few 3 _law_listed 4 _law_cell 5 _law_size 6 _law_k 7 _law_kept -/
def t_law02 (G : G3) (E : XK) : TS :=
  (tSeq (tAsg (tOp rCat (tCall (sp_l_signs G) [] E0 (tCons (tCall (sp_l_cell_at G) [] E0 (tCons (tVar 0) (tCons (tC (.int 0)) tNil))) tNil)) (tLst (tCons (tC .non) tNil))) (gName 1))
  (tSeq (tAsg (tOp oAdd (tC (.int 1)) (tOp oMod (tCall (sp_l_cell_at G) [] E0 (tCons (tVar 0) (tCons (tC (.int 1)) tNil))) (tC (.int 5)))) (gName 2))
  (tSeq (tAsg (tLc (iList G.K (tSl (rSlL G.K) (tVar 0) (tPart (tC (.int 2))) (tPart (tC (.int 42))))) (gName 4) tYes (tOp (rIxL G.K) (tVar 1) (tOp oMod (tOp oAdd (tVar 4) (tOp oDiv (tCall (sp_l_cell_at G) [] E0 (tCons (tVar 0) (tCons (tC (.int 1)) tNil))) (tC (.int 5)))) (tVar 2))) [4]) (gName 3))
  (Evl.tCut (tIfS (tAnd (tTest (tOp (rNeD G.K) (tVar 3) (tLst tNil))) (tTest (tOp rEq (tOp oMod (tOp oDiv (tCall (sp_l_cell_at G) [] E0 (tCons (tVar 0) (tCons (tC (.int 1)) tNil))) (tC (.int 25))) (tC (.int 3))) (tC (.int 1))))) (tSeq (tAsg (tOp oSub (tOp oAdd (tOp oDiv (tCB (oLen G.K) (tCons (tVar 3) tNil)) (tC (.int 2))) (tOp oMod (tOp oDiv (tCall (sp_l_cell_at G) [] E0 (tCons (tVar 0) (tCons (tC (.int 1)) tNil))) (tC (.int 75))) (tC (.int 3)))) (tC (.int 1))) (gName 5))
  (tFor (iRng1 (tCons (tCB oMax2 (tCons (tC (.int 0)) (tCons (tVar 5) tNil))) tNil)) (gName 6) (tAsg (tOp (rIxL G.K) (tVar 1) (tOp oDiv (tVar 6) (tCB (oLen G.K) (tCons (tVar 3) tNil)))) (gSub (tVar 3) (tOp oMod (tOp oAdd (tOp oMul (tC (.int 7)) (tVar 6)) (tOp oDiv (tCall (sp_l_cell_at G) [] E0 (tCons (tVar 0) (tCons (tC (.int 1)) tNil))) (tC (.int 225)))) (tCB (oLen G.K) (tCons (tVar 3) tNil))) rSetL)))) tNext)
  (tSeq (tAsg (tCB (oList G.K) (tCons (tVar 3) tNil)) (gName 7))
  (tRet (tAndV (tCall (sp_l_same G) [] E0 (tCons (tCall (sp_vote G) [] E0 (tCons (tVar 3) tNil)) (tCons (tCall (sp_vote G) [] E0 (tCons (tVar 7) tNil)) tNil))) (tAndV (tOp rEq (tCB (oLen G.K) (tCons (tVar 3) tNil)) (tCB (oLen G.K) (tCons (tVar 7) tNil))) (tOp (rEqD G.K) (tVar 3) (tVar 7))))))))))
theorem eqvAll_pd_nil {vs : List V} : PyData.eqv (.list (vs.map pd)) (.list []) = vs.isEmpty := by
  cases vs <;> rfl
section
variable {G : G3} {N : List PySem.Str} {vs : List V} {H : Hp} {Q : VK} {E : XK}
theorem pure_law02 (hN : N.length = 8) (h : sp_law G vs H Q E) : t_law02 G E (endsOf Q) (L2.start N vs) H := by
  obtain ⟨a, ns, rfl, hs, hl, q⟩ := h
  rw [start_eq hN]
  got_up
  refine ⟨a, ns, 0, rfl, hs, ?_⟩
  got_up
  intro l ss H1 nl s1 h4 hg hl1
  -- + [None]
  refine ⟨by show 1 ≤ sizeLine; decide, fun p np => ?_⟩
  have hpl : l ≠ p := ne_of_none hl1 np
  refine ⟨l, p, _, _, rfl, rfl, by rw [upd_ne hpl]; exact hl1, upd_same, by simp [h4]; decide, fun r nr => ?_⟩
  have s2 : Same H1 (upd H1 p (.lst [.non])) := same_new np
  obtain ⟨sg, hsg⟩ : ∃ sg : List V, sg = ss.map V.str ++ [.non] := ⟨_, rfl⟩
  rw [← hsg]
  have hg5 : sg.length = 5 := by rw [hsg]; simp [h4]
  have hgg : ∀ v ∈ sg, SignG v := fun v hv => by
    rw [hsg] at hv
    rcases List.mem_append.mp hv with h | h
    · obtain ⟨s, h1, rfl⟩ := List.mem_map.mp h
      exact .inr ⟨s, rfl, hg s h1⟩
    · exact .inl (List.mem_singleton.mp h)
  obtain ⟨H3, hH3⟩ : ∃ H3, H3 = upd (upd H1 p (.lst [.non])) r (.lst sg) := ⟨_, rfl⟩
  have s3 : Same H H3 := by rw [hH3]; exact (s1.trans s2).trans (same_new nr)
  have hr : H3 r = some (.lst sg) := by rw [hH3, upd_same]
  rw [← hH3]
  clear hH3 nr
  have hs3 : SqL G.K H3 a (ns.map V.int) := s3.seq hs
  -- few
  got_up
  refine ⟨a, ns, 1, rfl, hs3, ?_⟩
  obtain ⟨few, hfew⟩ : ∃ few, few = 1 + cellM ns 1 % 5 := ⟨_, rfl⟩
  have hf1 : 0 < few := by have := Int.emod_nonneg (cellM ns 1) (show (5 : Int) ≠ 0 by decide); omega
  have hf2 : few ≤ 5 := by have := Int.emod_lt_of_pos (cellM ns 1) (show (0 : Int) < 5 by decide); omega
  got_up
  simp only [← hfew]
  -- the comprehension
  refine ⟨a, _, rfl, hs3, fun c nc => ?_⟩
  obtain ⟨ms, hms, hml⟩ := cut_map (ns := ns) (lo := some 2) (hi := some 42)
  rw [hms]
  have s4 : Same H3 (upd H3 c (.lst (ms.map V.int))) := same_new nc
  got_up
  refine lc_rl (R := rI) (S := rV) (ds := ms) mono_rI (SqL.of upd_same) (all2_rI ms) monoT_rV (fun _ => true) (fun d => sg.getD ((d + cellM ns 1 / 5) % few).toNat .non) (by omega) ?_ ?_
  · rintro d v H' hd sm rfl Y N hY hN
    got_up
    refine ⟨a, ns, 1, rfl, sm.seq (s4.seq hs3), ?_⟩
    have hz1 : 0 ≤ (d + cellM ns 1 / 5) % few := Int.emod_nonneg _ (by omega)
    have hz2 : (d + cellM ns 1 / 5) % few < few := Int.emod_lt_of_pos _ hf1
    got_up
    refine ⟨r, sg, _, _, rfl, rfl, SqL.of (sm _ _ (s4 _ _ hr)), ?_, hY rfl _ _ (Same.refl _) rfl⟩
    obtain ⟨j, hj⟩ := Int.eq_ofNat_of_zero_le hz1
    rw [hj] at hz2 ⊢
    have hj2 : j < sg.length := by omega
    refine atI_nat ?_
    simp [List.getD_eq_getElem?_getD, hj2]
  · intro lr ls H4 nlr s5 hlr hall
    have hls := of_rV hall
    have hlg : ∀ v ∈ ls, SignG v := fun v hv => by
      rw [hls] at hv
      obtain ⟨d, _, rfl⟩ := List.mem_map.mp hv
      rw [List.getD_eq_getElem?_getD]
      cases e : sg[((d + cellM ns 1 / 5) % few).toNat]? with
      | none => exact .inl rfl
      | some v => exact hgg v (List.mem_of_getElem? e)
    have hll : ls.length ≤ 63 := by
      rw [hls, List.length_map]
      exact Nat.le_trans (List.length_filter_le _ _) (by omega)
    clear hls hall
    have s6 : Same H H4 := s3.trans (s4.trans s5)
    have hs4 : SqL G.K H4 a (ns.map V.int) := s6.seq hs
    have hr4 : H4 r = some (.lst sg) := s5 _ _ (s4 _ _ hr)
    got_up
    -- behind the if: a list of as many good things
    refine ⟨fun σ' H' => (∃ v5 v6, σ' = [some (.ref a), some (.ref r), some (.int few), some (.ref lr), none, v5, v6, none]) ∧ ∃ ls' : List V, H' lr = some (.lst ls') ∧ (∀ v ∈ ls', SignG v) ∧ ls'.length ≤ 63, ?_, ?_⟩
    · got_up
      refine ⟨Nat.zero_le _, fun e ne => ?_⟩
      have s7 : Same H4 (upd H4 e (.lst [])) := same_new ne
      refine ⟨.list (ls.map pd), .list [], .lst (SqL.of (s7 _ _ hlr)) (dpAll_pd (flats fun v hv => (hlg v hv).v)), .lst (SqL.of upd_same) .nil, ?_, rfl, ?_⟩
      · refine Lay.shaped (n := 1) (Lay.list fun d hd => ?_) (by decide)
        obtain ⟨v, hv, rfl⟩ := List.mem_map.mp hd
        exact (hlg v hv).lay
      rw [eqvAll_pd_nil]
      by_cases hne : ls = []
      · subst hne
        got_up
        exact ⟨⟨none, none, rfl⟩, [], s7 _ _ hlr, by simp, by simp⟩
      · have hemp : ls.isEmpty = false := by cases ls <;> simp_all
        have hpos : 0 < ls.length := List.length_pos_iff.mpr hne
        rw [hemp]
        got_up
        refine ⟨a, ns, 1, rfl, s7.seq hs4, ?_⟩
        got_up
        refine ite2 (fun c1 => ?_) (fun c1 => ?_)
        · got_up
          refine ⟨lr, ls, rfl, .inl (SqL.of (s7 _ _ hlr)), ?_⟩
          got_up
          refine ⟨a, ns, 1, rfl, s7.seq hs4, ?_⟩
          have hz1 : 0 ≤ cellM ns 1 / 75 % 3 := Int.emod_nonneg _ (by decide)
          have hz2 : cellM ns 1 / 75 % 3 < 3 := Int.emod_lt_of_pos _ (by decide)
          got_up
          refine for_rg (n := _) ⟨by split <;> omega, by split <;> omega⟩ (fun i σ' H' => (∃ v6, σ' = [some (.ref a), some (.ref r), some (.int few), some (.ref lr), none, some (.int ((ls.length : Int) / 2 + cellM ns 1 / 75 % 3 - 1)), v6, none]) ∧ Same H H' ∧ H' r = some (.lst sg) ∧ ∃ ls' : List V, H' lr = some (.lst ls') ∧ (∀ v ∈ ls', SignG v) ∧ ls'.length = ls.length)
            ⟨⟨none, rfl⟩, s6.trans s7, s7 _ _ hr4, ls, s7 _ _ hlr, hlg, rfl⟩ ?_ ?_
          · rintro i σ' H' hi ⟨⟨v6, rfl⟩, hs', hr', ls', hl', hg', hn'⟩
            have hi2 : (i : Int) < (ls.length : Int) := by
              split at hi <;> omega
            have e0 : (i : Int) / (ls'.length : Int) = 0 := Int.ediv_eq_zero_of_lt (by omega) (by omega)
            have hrl : r ≠ lr := fun e => by
              subst e
              have := nlr
              rw [s4 _ _ hr] at this
              cases this
            got_up
            refine ⟨lr, ls', rfl, .inl (SqL.of hl'), ?_⟩
            got_up
            refine ⟨r, sg, _, sg.getD 0 .non, rfl, rfl, SqL.of hr', ?_, ?_⟩
            · rw [e0]
              exact atI_nat (j := 0) (by simp [List.getD_eq_getElem?_getD, hg5])
            got_up
            refine ⟨a, ns, 1, rfl, hs'.seq hs, ?_⟩
            got_up
            refine ⟨lr, ls', rfl, .inl (SqL.of hl'), ?_⟩
            have hz3 : 0 ≤ (7 * (i : Int) + cellM ns 1 / 225) % (ls'.length : Int) := Int.emod_nonneg _ (by omega)
            have hz4 : (7 * (i : Int) + cellM ns 1 / 225) % (ls'.length : Int) < (ls'.length : Int) := Int.emod_lt_of_pos _ (by omega)
            obtain ⟨j, hj⟩ := Int.eq_ofNat_of_zero_le hz3
            got_up
            refine ⟨lr, ls', _, j, rfl, rfl, hl', by rw [hj] at hz4 ⊢; exact Evl.ixN_nat (by omega), ?_⟩
            refine ⟨⟨_, rfl⟩, ?_, by rw [upd_ne hrl]; exact hr', ls'.set j (sg.getD 0 .non), upd_same, fun v hv => ?_, by simp [hn']⟩
            · exact same_upd hs' ((s3.trans s4).free nlr)
            · rcases List.mem_or_eq_of_mem_set hv with h | h
              · exact hg' v h
              · rw [h, List.getD_eq_getElem?_getD]
                cases e : sg[0]? with
                | none => exact .inl rfl
                | some v => exact hgg v (List.mem_of_getElem? e)
          · rintro σ' H' ⟨⟨v6, rfl⟩, hs', hr', ls', hl', hg', hn'⟩
            exact ⟨⟨_, _, rfl⟩, ls', hl', hg', by omega⟩
        · exact ⟨⟨none, none, rfl⟩, ls, s7 _ _ hlr, hlg, hll⟩
    · rintro σ' H5 ⟨⟨v5, v6, rfl⟩, ls', hl5, hg5, hl5'⟩
      got_up
      refine ⟨lr, ls', rfl, .inl (SqL.of hl5), fun k nk => ?_⟩
      have s8 : Same H5 (upd H5 k (.lst ls')) := same_new nk
      have hv : ∀ v ∈ ls', SignV v := fun v h => (hg5 v h).v
      have vv : SignV (voteM ls') := voteM_sign hv
      got_up
      refine ⟨lr, ls', rfl, SqL.of (s8 _ _ hl5), hv, ?_⟩
      got_up
      refine ⟨k, ls', rfl, SqL.of upd_same, hv, ?_⟩
      refine ⟨_, _, rfl, vv, vv, ?_⟩
      rw [decide_eq_true rfl]
      got_up
      refine ⟨lr, ls', rfl, .inl (SqL.of (s8 _ _ hl5)), ?_⟩
      got_up
      refine ⟨k, ls', rfl, .inl (SqL.of upd_same), ?_⟩
      got_up
      rw [decide_eq_true rfl]
      refine iteT ?_
      got_up
      have hd : ∀ d ∈ ls'.map pd, Lay 0 d := fun d hd => by
        obtain ⟨v, hv, rfl⟩ := List.mem_map.mp hd
        exact (hg5 v hv).lay
      have hsh := Lay.shaped (Lay.list hd) (by decide)
      refine ⟨.list (ls'.map pd), .list (ls'.map pd), .lst (SqL.of (s8 _ _ hl5)) (dpAll_pd (flats hv)), .lst (SqL.of upd_same) (dpAll_pd (flats hv)), hsh, hsh, ?_⟩
      rw [SeqAt.eqv_refl _ (Lay.list hd).1]
      exact q _
end
end LT

set_option Elab.async false
set_option linter.all false
set_option maxRecDepth 100000
set_option maxHeartbeats 0

namespace LK
open PySem PySem.Spec PyProof.Rows L2 LT
set_option maxRecDepth 100000
def top (i : Nat) : Stmt := PySem.Challenge.pw_lietable_k02_votes.main.body.getD i (.Pass ⟨0, 0, 0, 0⟩)
abbrev s_l_cell_at : Stmt := top 3
abbrev N_l_cell_at : List PySem.Str := ["_law_script", "_law_k"]
abbrev P_l_cell_at : List PySem.Str := ["_law_script", "_law_k"]
theorem sc_l_cell_at : FnScope N_l_cell_at P_l_cell_at (defScope s_l_cell_at) := ⟨rfl, rfl, rfl, by decide +kernel, rfl, by decide +kernel, by decide +kernel⟩
abbrev s_l_signs : Stmt := top 4
abbrev N_l_signs : List PySem.Str := ["_law_cell", "_law_letters", "_law_size", "_law_found", "_law_k", "_law_sign", "_law_place", "_law_ahead", "_law_behind"]
abbrev P_l_signs : List PySem.Str := ["_law_cell"]
theorem sc_l_signs : FnScope N_l_signs P_l_signs (defScope s_l_signs) := ⟨rfl, rfl, rfl, by decide +kernel, rfl, by decide +kernel, by decide +kernel⟩
abbrev s_vote : Stmt := top 1
abbrev N_vote : List PySem.Str := ["signs", "sign"]
abbrev P_vote : List PySem.Str := ["signs"]
theorem sc_vote : FnScope N_vote P_vote (defScope s_vote) := ⟨rfl, rfl, rfl, by decide +kernel, rfl, by decide +kernel, by decide +kernel⟩
abbrev s_l_vote : Stmt := top 5
abbrev N_l_vote : List PySem.Str := ["_law_signs_here", "_law_sign"]
abbrev P_l_vote : List PySem.Str := ["_law_signs_here"]
theorem sc_l_vote : FnScope N_l_vote P_l_vote (defScope s_l_vote) := ⟨rfl, rfl, rfl, by decide +kernel, rfl, by decide +kernel, by decide +kernel⟩
abbrev s_l_same : Stmt := top 6
abbrev N_l_same : List PySem.Str := ["_law_found", "_law_due"]
abbrev P_l_same : List PySem.Str := ["_law_found", "_law_due"]
theorem sc_l_same : FnScope N_l_same P_l_same (defScope s_l_same) := ⟨rfl, rfl, rfl, by decide +kernel, rfl, by decide +kernel, by decide +kernel⟩
abbrev s_law : Stmt := top 7
abbrev N_law : List PySem.Str := ["_law_script", "_law_signs_here", "_law_few", "_law_listed", "_law_cell", "_law_size", "_law_k", "_law_kept"]
abbrev P_law : List PySem.Str := ["_law_script"]
theorem sc_law : FnScope N_law P_law (defScope s_law) := ⟨rfl, rfl, rfl, by decide +kernel, rfl, by decide +kernel, by decide +kernel⟩
def d_l_cell_at : He.DefD := ⟨("_law_cell_at", none), "_law_cell_at", "_law_cell_at", defArgs s_l_cell_at, defBody s_l_cell_at, defScope s_l_cell_at, [], []⟩
def d_l_signs : He.DefD := ⟨("_law_signs", none), "_law_signs", "_law_signs", defArgs s_l_signs, defBody s_l_signs, defScope s_l_signs, [], []⟩
def d_vote : He.DefD := ⟨("vote", none), "vote", "vote", defArgs s_vote, defBody s_vote, defScope s_vote, [], []⟩
def d_l_vote : He.DefD := ⟨("_law_vote", none), "_law_vote", "_law_vote", defArgs s_l_vote, defBody s_l_vote, defScope s_l_vote, [], []⟩
def d_l_same : He.DefD := ⟨("_law_same", none), "_law_same", "_law_same", defArgs s_l_same, defBody s_l_same, defScope s_l_same, [], []⟩
def d_law : He.DefD := ⟨("law", none), "law", "law", defArgs s_law, defBody s_law, defScope s_law, [], []⟩
def fn : List He.DefD := [d_l_cell_at, d_l_signs, d_vote, d_l_vote, d_l_same, d_law]
def fa : List He.Fa := [.free "isinstance", .free "len", .free "list", .free "max", .free "range", .free "str", .glo "_law_cell_at", .glo "_law_signs", .glo "vote", .glo "_law_vote", .glo "_law_same", .glo "law"]
structure Tx (K : PySem.W.Frag) (mg : PySem.Str → Option Value) : Prop where
  b_isinstance : mg "isinstance" = none
  b_len : mg "len" = none
  b_list : mg "list" = none
  b_max : mg "max" = none
  b_range : mg "range" = none
  b_str : mg "str" = none
  g__law_cell_at : mg "_law_cell_at" = some (.ref (He.ga K "_law_cell_at"))
  F_l_cell_at : ∃ fd, FunD K "_law_cell_at" "_law_cell_at" (defArgs s_l_cell_at) (defBody s_l_cell_at) (defScope s_l_cell_at) [] [] (He.fAd K ("_law_cell_at", none)) fd
  g__law_signs : mg "_law_signs" = some (.ref (He.ga K "_law_signs"))
  F_l_signs : ∃ fd, FunD K "_law_signs" "_law_signs" (defArgs s_l_signs) (defBody s_l_signs) (defScope s_l_signs) [] [] (He.fAd K ("_law_signs", none)) fd
  g_vote : mg "vote" = some (.ref (He.ga K "vote"))
  F_vote : ∃ fd, FunD K "vote" "vote" (defArgs s_vote) (defBody s_vote) (defScope s_vote) [] [] (He.fAd K ("vote", none)) fd
  g__law_vote : mg "_law_vote" = some (.ref (He.ga K "_law_vote"))
  F_l_vote : ∃ fd, FunD K "_law_vote" "_law_vote" (defArgs s_l_vote) (defBody s_l_vote) (defScope s_l_vote) [] [] (He.fAd K ("_law_vote", none)) fd
  g__law_same : mg "_law_same" = some (.ref (He.ga K "_law_same"))
  F_l_same : ∃ fd, FunD K "_law_same" "_law_same" (defArgs s_l_same) (defBody s_l_same) (defScope s_l_same) [] [] (He.fAd K ("_law_same", none)) fd
  F_law : ∃ fd, FunD K "law" "law" (defArgs s_law) (defBody s_law) (defScope s_law) [] [] (He.fAd K ("law", none)) fd
theorem tx_of {K : PySem.W.Frag} {h : Heap} {mg : PySem.Str → Option Value} (X : K.In h) (G : h.Ns mainGlobals mg) (c : He.SaysD fa fn K) : Tx K mg :=
  ⟨He.free_ok X G (c.fact 0 rfl),
   He.free_ok X G (c.fact 1 rfl),
   He.free_ok X G (c.fact 2 rfl),
   He.free_ok X G (c.fact 3 rfl),
   He.free_ok X G (c.fact 4 rfl),
   He.free_ok X G (c.fact 5 rfl),
   He.glo_ok X G (c.fact 6 rfl),
   c.def_ 0 (d := d_l_cell_at) rfl,
   He.glo_ok X G (c.fact 7 rfl),
   c.def_ 1 (d := d_l_signs) rfl,
   He.glo_ok X G (c.fact 8 rfl),
   c.def_ 2 (d := d_vote) rfl,
   He.glo_ok X G (c.fact 9 rfl),
   c.def_ 3 (d := d_l_vote) rfl,
   He.glo_ok X G (c.fact 10 rfl),
   c.def_ 4 (d := d_l_same) rfl,
   c.def_ 5 (d := d_law) rfl⟩
section
variable {P : Program} {w : World} {K : PySem.W.Frag} {mg : PySem.Str → Option Value} {base : Heap} (T : Tx K mg)
include T

theorem b_l_cell_at : Binds K T.F_l_cell_at.choose P_l_cell_at [] := T.F_l_cell_at.choose_spec.bindsN fun _ _ _ _ _ _ us hl => match us, hl with | [_, _], _ => rfl
theorem ok_l_cell_at : FnOk P w K mg base (L2.CX P w) 1 (He.ga K "_law_cell_at") T.F_l_cell_at.choose P_l_cell_at (sp_l_cell_at ⟨P, w, K⟩) := by
  refine T.F_l_cell_at.choose_spec.ok sc_l_cell_at (fun vs H Q E h => by first | (obtain ⟨rfl, _⟩ := h; rfl) | (obtain ⟨_, rfl, _⟩ := h; rfl) | (obtain ⟨_, _, rfl, _⟩ := h; rfl) | (obtain ⟨_, _, _, rfl, _⟩ := h; rfl) | (obtain ⟨_, _, _, _, rfl, _⟩ := h; rfl) | (obtain ⟨_, _, _, _, _, rfl, _⟩ := h; rfl) | (obtain ⟨_, _, _, _, _, _, rfl, _⟩ := h; rfl) | (obtain ⟨_, _, _, _, _, _, _, rfl, _⟩ := h; rfl) | (obtain ⟨_, _, _, _, _, _, _, _, rfl, _⟩ := h; rfl) | (obtain ⟨_, _, _, _, _, _, _, _, _, rfl, _⟩ := h; rfl) | (obtain ⟨_, _, _, _, _, _, _, _, _, _, rfl, _⟩ := h; rfl) | (obtain ⟨_, _, _, _, _, _, _, _, _, _, _, rfl, _⟩ := h; rfl) | (obtain ⟨_, _, _, _, _, _, _, _, _, _, _, _, rfl, _⟩ := h; rfl)) (fun cdv A outer s H vs Q E hr h => ⟨t_l_cell_at ⟨P, w, K⟩ E, PSs.nox ?_, pure_l_cell_at (by rfl) h⟩)
  have hu := hu_of hr
  exact (pss_cons (ps_if (pt_cmpR op_lt (pv 1) (pe_callB call_len_seq (by rfl) T.b_len (by decide +kernel) (pa_cons (pv 0) pa_nil)) (nomark _)) (pss_one (ps_ret (pe_ix ix_list (pv 0) (pv 1) (fun _ _ => rfl)))) pss_nil)
  (pss_one (ps_ret pe_int)))
theorem b_l_signs : Binds K T.F_l_signs.choose P_l_signs [] := T.F_l_signs.choose_spec.bindsN fun _ _ _ _ _ _ us hl => match us, hl with | [_], _ => rfl
theorem ok_l_signs : FnOk P w K mg base (L2.CX P w) 1 (He.ga K "_law_signs") T.F_l_signs.choose P_l_signs (sp_l_signs ⟨P, w, K⟩) := by
  refine T.F_l_signs.choose_spec.ok sc_l_signs (fun vs H Q E h => by first | (obtain ⟨rfl, _⟩ := h; rfl) | (obtain ⟨_, rfl, _⟩ := h; rfl) | (obtain ⟨_, _, rfl, _⟩ := h; rfl) | (obtain ⟨_, _, _, rfl, _⟩ := h; rfl) | (obtain ⟨_, _, _, _, rfl, _⟩ := h; rfl) | (obtain ⟨_, _, _, _, _, rfl, _⟩ := h; rfl) | (obtain ⟨_, _, _, _, _, _, rfl, _⟩ := h; rfl) | (obtain ⟨_, _, _, _, _, _, _, rfl, _⟩ := h; rfl) | (obtain ⟨_, _, _, _, _, _, _, _, rfl, _⟩ := h; rfl) | (obtain ⟨_, _, _, _, _, _, _, _, _, rfl, _⟩ := h; rfl) | (obtain ⟨_, _, _, _, _, _, _, _, _, _, rfl, _⟩ := h; rfl) | (obtain ⟨_, _, _, _, _, _, _, _, _, _, _, rfl, _⟩ := h; rfl) | (obtain ⟨_, _, _, _, _, _, _, _, _, _, _, _, rfl, _⟩ := h; rfl)) (fun cdv A outer s H vs Q E hr h => ⟨t_l_signs ⟨P, w, K⟩ E, PSs.nox ?_, pure_l_signs (by rfl) h⟩)
  have hu := hu_of hr
  exact (pss_cons (ps_set (i := 1) sc_l_signs.nd rfl (Or.inl rfl) pe_str)
  (pss_cons (ps_set (i := 2) sc_l_signs.nd rfl (Or.inl rfl) (pe_op op_add pe_int (pe_op op_mod (pe_op op_fdiv (pv 0) pe_int) pe_int)))
  (pss_cons (ps_set (i := 3) sc_l_signs.nd rfl (Or.inl rfl) (pe_lst pa_nil))
  (pss_cons (ps_for PassesOwn.never rfl (pi_range1 (by rfl) T.b_range (pa_cons pe_int pa_nil)) (pg_name (i := 4) sc_l_signs.nd rfl (by first | exact Or.inl rfl | exact Or.inr rfl)) (pss_cons (ps_set (i := 5) sc_l_signs.nd rfl (Or.inl rfl) (pe_ix ix_str (pv 1) (pe_op op_mod (pe_op op_add (pe_op op_fdiv (pv 0) pe_int) (pe_op op_mul pe_int (pv 4))) pe_int) (fun _ _ => rfl)))
  (pss_one (ps_if (pt_cmpR op_eq (pe_op op_mod (pv 0) pe_int) pe_int (nomark _)) (pss_one (ps_expr (pe_bm PySem.F.plainAttrs_list PySem.F.slot_list_append PySem.F.type_list_append mt_append (pv 3) (pa_cons (pe_op op_mul_str (pe_ix ix_str (pv 1) (pe_op op_mod (pe_op op_fdiv (pv 0) pe_int) pe_int) (fun _ _ => rfl)) (pe_op op_add pe_int (pe_op op_mul pe_int (pv 4)))) pa_nil)))) (pss_cons (ps_set (i := 6) sc_l_signs.nd rfl (Or.inl rfl) (pe_op op_mod (pe_op op_fdiv (pv 0) pe_int) (pv 2)))
  (pss_cons (ps_set (i := 7) sc_l_signs.nd rfl (Or.inl rfl) (pe_op op_mul_str (pe_ix ix_str (pv 1) (pv 2) (fun _ _ => rfl)) (pv 6)))
  (pss_cons (ps_set (i := 8) sc_l_signs.nd rfl (Or.inl rfl) (pe_op op_mul_str (pe_ix ix_str (pv 1) (pe_op op_add (pv 2) (pe_op op_mod (pv 0) pe_int)) (fun _ _ => rfl)) (pe_op op_sub (pe_op op_sub (pv 2) pe_int) (pv 6))))
  (pss_one (ps_expr (pe_bm PySem.F.plainAttrs_list PySem.F.slot_list_append PySem.F.type_list_append mt_append (pv 3) (pa_cons (pe_op op_add_str (pe_op op_add_str (pv 7) (pv 5)) (pv 8)) pa_nil)))))))))))
  (pss_one (ps_ret (pv 3)))))))
theorem b_vote : Binds K T.F_vote.choose P_vote [] := T.F_vote.choose_spec.bindsN fun _ _ _ _ _ _ us hl => match us, hl with | [_], _ => rfl
theorem ok_vote : FnOk P w K mg base (L2.CX P w) 1 (He.ga K "vote") T.F_vote.choose P_vote (sp_vote ⟨P, w, K⟩) := by
  refine T.F_vote.choose_spec.ok sc_vote (fun vs H Q E h => by first | (obtain ⟨rfl, _⟩ := h; rfl) | (obtain ⟨_, rfl, _⟩ := h; rfl) | (obtain ⟨_, _, rfl, _⟩ := h; rfl) | (obtain ⟨_, _, _, rfl, _⟩ := h; rfl) | (obtain ⟨_, _, _, _, rfl, _⟩ := h; rfl) | (obtain ⟨_, _, _, _, _, rfl, _⟩ := h; rfl) | (obtain ⟨_, _, _, _, _, _, rfl, _⟩ := h; rfl) | (obtain ⟨_, _, _, _, _, _, _, rfl, _⟩ := h; rfl) | (obtain ⟨_, _, _, _, _, _, _, _, rfl, _⟩ := h; rfl) | (obtain ⟨_, _, _, _, _, _, _, _, _, rfl, _⟩ := h; rfl) | (obtain ⟨_, _, _, _, _, _, _, _, _, _, rfl, _⟩ := h; rfl) | (obtain ⟨_, _, _, _, _, _, _, _, _, _, _, rfl, _⟩ := h; rfl) | (obtain ⟨_, _, _, _, _, _, _, _, _, _, _, _, rfl, _⟩ := h; rfl)) (fun cdv A outer s H vs Q E hr h => ⟨t_vote ⟨P, w, K⟩ E, PSs.nox ?_, pure_vote (by rfl) h⟩)
  have hu := hu_of hr
  exact (pss_cons (ps_for PassesOwn.never rfl (pi_list (pv 0)) (pg_name (i := 1) sc_vote.nd rfl (by first | exact Or.inl rfl | exact Or.inr rfl)) (pss_one (ps_if (pt_cmpR op_gt (pe_op op_mul pe_int (pe_bm PySem.F.plainAttrs_list PySem.F.slot_list_count PySem.F.type_list_count mt_countV (pv 0) (pa_cons (pv 1) pa_nil))) (pe_callB call_len_seq (by rfl) T.b_len (by decide +kernel) (pa_cons (pv 0) pa_nil)) (nomark _)) (pss_one (ps_ret (pv 1))) pss_nil)))
  (pss_one (ps_ret pe_non)))
theorem b_l_vote : Binds K T.F_l_vote.choose P_l_vote [] := T.F_l_vote.choose_spec.bindsN fun _ _ _ _ _ _ us hl => match us, hl with | [_], _ => rfl
theorem ok_l_vote : FnOk P w K mg base (L2.CX P w) 1 (He.ga K "_law_vote") T.F_l_vote.choose P_l_vote (sp_vote ⟨P, w, K⟩) := by
  refine T.F_l_vote.choose_spec.ok sc_l_vote (fun vs H Q E h => by first | (obtain ⟨rfl, _⟩ := h; rfl) | (obtain ⟨_, rfl, _⟩ := h; rfl) | (obtain ⟨_, _, rfl, _⟩ := h; rfl) | (obtain ⟨_, _, _, rfl, _⟩ := h; rfl) | (obtain ⟨_, _, _, _, rfl, _⟩ := h; rfl) | (obtain ⟨_, _, _, _, _, rfl, _⟩ := h; rfl) | (obtain ⟨_, _, _, _, _, _, rfl, _⟩ := h; rfl) | (obtain ⟨_, _, _, _, _, _, _, rfl, _⟩ := h; rfl) | (obtain ⟨_, _, _, _, _, _, _, _, rfl, _⟩ := h; rfl) | (obtain ⟨_, _, _, _, _, _, _, _, _, rfl, _⟩ := h; rfl) | (obtain ⟨_, _, _, _, _, _, _, _, _, _, rfl, _⟩ := h; rfl) | (obtain ⟨_, _, _, _, _, _, _, _, _, _, _, rfl, _⟩ := h; rfl) | (obtain ⟨_, _, _, _, _, _, _, _, _, _, _, _, rfl, _⟩ := h; rfl)) (fun cdv A outer s H vs Q E hr h => ⟨t_vote ⟨P, w, K⟩ E, PSs.nox ?_, pure_vote (by rfl) h⟩)
  have hu := hu_of hr
  exact (pss_cons (ps_for PassesOwn.never rfl (pi_list (pv 0)) (pg_name (i := 1) sc_l_vote.nd rfl (by first | exact Or.inl rfl | exact Or.inr rfl)) (pss_one (ps_if (pt_cmpR op_gt (pe_op op_mul pe_int (pe_bm PySem.F.plainAttrs_list PySem.F.slot_list_count PySem.F.type_list_count mt_countV (pv 0) (pa_cons (pv 1) pa_nil))) (pe_callB call_len_seq (by rfl) T.b_len (by decide +kernel) (pa_cons (pv 0) pa_nil)) (nomark _)) (pss_one (ps_ret (pv 1))) pss_nil)))
  (pss_one (ps_ret pe_non)))
theorem b_l_same : Binds K T.F_l_same.choose P_l_same [] := T.F_l_same.choose_spec.bindsN fun _ _ _ _ _ _ us hl => match us, hl with | [_, _], _ => rfl
theorem ok_l_same : FnOk P w K mg base (L2.CX P w) 1 (He.ga K "_law_same") T.F_l_same.choose P_l_same (sp_l_same ⟨P, w, K⟩) := by
  refine T.F_l_same.choose_spec.ok sc_l_same (fun vs H Q E h => by first | (obtain ⟨rfl, _⟩ := h; rfl) | (obtain ⟨_, rfl, _⟩ := h; rfl) | (obtain ⟨_, _, rfl, _⟩ := h; rfl) | (obtain ⟨_, _, _, rfl, _⟩ := h; rfl) | (obtain ⟨_, _, _, _, rfl, _⟩ := h; rfl) | (obtain ⟨_, _, _, _, _, rfl, _⟩ := h; rfl) | (obtain ⟨_, _, _, _, _, _, rfl, _⟩ := h; rfl) | (obtain ⟨_, _, _, _, _, _, _, rfl, _⟩ := h; rfl) | (obtain ⟨_, _, _, _, _, _, _, _, rfl, _⟩ := h; rfl) | (obtain ⟨_, _, _, _, _, _, _, _, _, rfl, _⟩ := h; rfl) | (obtain ⟨_, _, _, _, _, _, _, _, _, _, rfl, _⟩ := h; rfl) | (obtain ⟨_, _, _, _, _, _, _, _, _, _, _, rfl, _⟩ := h; rfl) | (obtain ⟨_, _, _, _, _, _, _, _, _, _, _, _, rfl, _⟩ := h; rfl)) (fun cdv A outer s H vs Q E hr h => ⟨t_l_same ⟨P, w, K⟩ E, PSs.nox ?_, pure_l_same (by rfl) h⟩)
  have hu := hu_of hr
  exact (pss_cons (ps_if (pt_cmpR op_isN (pv 1) pe_non (nomark _)) (pss_one (ps_ret (pe_cmpR op_isN (pv 0) pe_non (nomark _)))) pss_nil)
  (pss_one (ps_ret (pe_and (pe_callB call_isi (by rfl) T.b_isinstance (by decide +kernel) (pa_cons (pv 0) (pa_cons (pe_bltn (v := .ty "str") (by rfl) T.b_str (by decide +kernel) rfl) pa_nil))) (pe_one (pe_cmpR op_eq (pv 0) (pv 1) (nomark _)))))))
theorem b_law : Binds K T.F_law.choose P_law [] := T.F_law.choose_spec.bindsN fun _ _ _ _ _ _ us hl => match us, hl with | [_], _ => rfl
theorem ok_law : FnOk P w K mg base CX0 2 (He.ga K "law") T.F_law.choose P_law (sp_law ⟨P, w, K⟩) := by
  refine T.F_law.choose_spec.ok sc_law (fun vs H Q E h => by first | (obtain ⟨rfl, _⟩ := h; rfl) | (obtain ⟨_, rfl, _⟩ := h; rfl) | (obtain ⟨_, _, rfl, _⟩ := h; rfl) | (obtain ⟨_, _, _, rfl, _⟩ := h; rfl) | (obtain ⟨_, _, _, _, rfl, _⟩ := h; rfl) | (obtain ⟨_, _, _, _, _, rfl, _⟩ := h; rfl) | (obtain ⟨_, _, _, _, _, _, rfl, _⟩ := h; rfl) | (obtain ⟨_, _, _, _, _, _, _, rfl, _⟩ := h; rfl) | (obtain ⟨_, _, _, _, _, _, _, _, rfl, _⟩ := h; rfl) | (obtain ⟨_, _, _, _, _, _, _, _, _, rfl, _⟩ := h; rfl) | (obtain ⟨_, _, _, _, _, _, _, _, _, _, rfl, _⟩ := h; rfl) | (obtain ⟨_, _, _, _, _, _, _, _, _, _, _, rfl, _⟩ := h; rfl) | (obtain ⟨_, _, _, _, _, _, _, _, _, _, _, _, rfl, _⟩ := h; rfl)) (fun cdv A outer s H vs Q E hr h => ⟨t_law02 ⟨P, w, K⟩ E, PSs.nox ?_, pure_law02 (by rfl) h⟩)
  have hu := hu_of hr
  have G_l_cell_at := ok_l_cell_at (P := P) (w := w) (base := base) T
  have b_l_cell_at := b_l_cell_at T
  have G_l_signs := ok_l_signs (P := P) (w := w) (base := base) T
  have b_l_signs := b_l_signs T
  have G_vote := ok_vote (P := P) (w := w) (base := base) T
  have b_vote := b_vote T
  have G_l_vote := ok_l_vote (P := P) (w := w) (base := base) T
  have b_l_vote := b_l_vote T
  have G_l_same := ok_l_same (P := P) (w := w) (base := base) T
  have b_l_same := b_l_same T
  exact (pss_cons (ps_set (i := 1) sc_law.nd rfl (Or.inr rfl) (pe_op op_cat (pe_call G_l_signs (hr.mono (by decide)) (by rfl) T.g__law_signs T.F_l_signs.choose_spec.kp b_l_signs .nil passL (pa_cons (pe_call G_l_cell_at (hr.mono (by decide)) (by rfl) T.g__law_cell_at T.F_l_cell_at.choose_spec.kp b_l_cell_at .nil passL (pa_cons (pv 0) (pa_cons pe_int pa_nil))) pa_nil)) (pe_lst (pa_cons pe_non pa_nil))))
  (pss_cons (ps_set (i := 2) sc_law.nd rfl (Or.inr rfl) (pe_op op_add pe_int (pe_op op_mod (pe_call G_l_cell_at (hr.mono (by decide)) (by rfl) T.g__law_cell_at T.F_l_cell_at.choose_spec.kp b_l_cell_at .nil passL (pa_cons (pv 0) (pa_cons pe_int pa_nil))) pe_int)))
  (pss_cons (ps_setLc (i := 3) (own := [("_law_cell", 4)]) (g := (gName 4)) (tt := tYes) rfl sc_law.nd rfl rfl (sw_true rfl rfl rfl (by decide +kernel)) (pi_list (pe_slice sl_list (pv 0) (po_some pe_int) (po_some pe_int))) (blkOk_by (N := N_law) (sc := defScope s_law) (by decide +kernel)) (fun _ _ _ _ _ => (pg_name (i := 4) sc_law.nd rfl (by first | exact Or.inl rfl | exact Or.inr rfl))) (fun _ _ _ _ _ => pts_nil) (fun _ _ _ _ _ => (pe_ix ix_list (pv 1) (pe_op op_mod (pe_op op_add (pv 4) (pe_op op_fdiv (pe_call G_l_cell_at (hr.mono (by decide)) (by rfl) T.g__law_cell_at T.F_l_cell_at.choose_spec.kp b_l_cell_at .nil passL (pa_cons (pv 0) (pa_cons pe_int pa_nil))) pe_int)) (pv 2)) (fun _ _ => rfl))))
  (Evl.pss_cut (ps_if (PW.pt (pw_and (pt_cmpR (op_neD hr.units) (pv 3) (pe_lst pa_nil) (nomark _)) (pw_and1 (pt_cmpR op_eq (pe_op op_mod (pe_op op_fdiv (pe_call G_l_cell_at (hr.mono (by decide)) (by rfl) T.g__law_cell_at T.F_l_cell_at.choose_spec.kp b_l_cell_at .nil passL (pa_cons (pv 0) (pa_cons pe_int pa_nil))) pe_int) pe_int) pe_int (nomark _))))) (pss_cons (ps_set (i := 5) sc_law.nd rfl (Or.inl rfl) (pe_op op_sub (pe_op op_add (pe_op op_fdiv (pe_callB call_len_seq (by rfl) T.b_len (by decide +kernel) (pa_cons (pv 3) pa_nil)) pe_int) (pe_op op_mod (pe_op op_fdiv (pe_call G_l_cell_at (hr.mono (by decide)) (by rfl) T.g__law_cell_at T.F_l_cell_at.choose_spec.kp b_l_cell_at .nil passL (pa_cons (pv 0) (pa_cons pe_int pa_nil))) pe_int) pe_int)) pe_int))
  (pss_one (ps_for PassesOwn.never rfl (pi_range1 (by rfl) T.b_range (pa_cons (pe_callB (call_max2 rfl) (by rfl) T.b_max (by decide +kernel) (pa_cons pe_int (pa_cons (pv 5) pa_nil))) pa_nil)) (pg_name (i := 6) sc_law.nd rfl (by first | exact Or.inl rfl | exact Or.inr rfl)) (pss_one (ps_asg (pe_ix ix_list (pv 1) (pe_op op_fdiv (pv 6) (pe_callB call_len_seq (by rfl) T.b_len (by decide +kernel) (pa_cons (pv 3) pa_nil))) (fun _ _ => rfl)) (pg_sub (pv 3) (pe_op op_mod (pe_op op_add (pe_op op_mul pe_int (pv 6)) (pe_op op_fdiv (pe_call G_l_cell_at (hr.mono (by decide)) (by rfl) T.g__law_cell_at T.F_l_cell_at.choose_spec.kp b_l_cell_at .nil passL (pa_cons (pv 0) (pa_cons pe_int pa_nil))) pe_int)) (pe_callB call_len_seq (by rfl) T.b_len (by decide +kernel) (pa_cons (pv 3) pa_nil))) set_list)))))) pss_nil)
  (pss_cons (ps_set (i := 7) sc_law.nd rfl (Or.inl rfl) (pe_callTy call_list_of (by rfl) T.b_list (by decide +kernel) (pa_cons (pv 3) pa_nil)))
  (pss_one (ps_ret (pe_and (pe_call G_l_same (hr.mono (by decide)) (by rfl) T.g__law_same T.F_l_same.choose_spec.kp b_l_same .nil passL (pa_cons (pe_call G_vote (hr.mono (by decide)) (by rfl) T.g_vote T.F_vote.choose_spec.kp b_vote .nil passL (pa_cons (pv 3) pa_nil)) (pa_cons (pe_call G_l_vote (hr.mono (by decide)) (by rfl) T.g__law_vote T.F_l_vote.choose_spec.kp b_l_vote .nil passL (pa_cons (pv 7) pa_nil)) pa_nil))) (pe_and (pe_cmpR op_eq (pe_callB call_len_seq (by rfl) T.b_len (by decide +kernel) (pa_cons (pv 3) pa_nil)) (pe_callB call_len_seq (by rfl) T.b_len (by decide +kernel) (pa_cons (pv 7) pa_nil)) (nomark _)) (pe_one (pe_cmpR (op_eqD hr.units) (pv 3) (pv 7) (nomark _))))))))))))
end
def names0 : List PySem.Str := ["vote", "_law_cell_at", "_law_signs", "_law_vote", "_law_same"]
def names : List PySem.Str := names0
abbrev R : PySem.W.OpenRow := PySem.W.OpenLaw.row PySem.Challenge.rw_lietable_k02_votes
abbrev hk : PySem.W.Hook := He.hookD 4 fa fn
def ob (s : PySem.W.SharedT) : He.AlD := He.obsDG 4 fa fn (HandSHeadRun.getT s)
theorem ob_eq (s : PySem.W.SharedT) : ob s = hk.obs s.abs := He.obsDG_eq (HandSHeadRun.getT_eq s)
theorem run (w : World) : HandSHeadRun.RunEq R (PySem.W.view R.prog [7]) hk ob 600 names w := by
  intro os
  kernel_rfl
theorem facts {P : Program} {w : World} {K : PySem.W.Frag} {h : Heap} {mg : PySem.Str → Option Value} {f : Addr} (X : K.In h) (G : h.Ns mainGlobals mg) (hfa : mg ("law" : PySem.Str) = some (.ref f)) (c : He.SaysD fa fn K) :
    ∃ fd : FuncData, (∀ (s : Shared) (v : Value), BindsTo s fd ⟨[v], []⟩ [("_law_script", v)]) ∧ ∀ base : Heap, K.In base → base.Ns mainGlobals mg → FnOk P w K mg base CX0 2 f fd ["_law_script"] (sp_law ⟨P, w, K⟩) := by
  have T := tx_of X G c
  have e := hfa.symm.trans (He.glo_ok X G (c.fact 11 (f := .glo "law") rfl))
  cases e
  have b := FunD.bindsA (ps := ["_law_script"]) T.F_law.choose_spec fun _ _ _ _ _ _ us hl => match us, hl with | [_], _ => rfl
  exact ⟨T.F_law.choose, fun s v => b s [v] rfl, fun base _ _ => ok_law T⟩
end LK
open PySem PySem.W PySem.Calls PyProof.Rows
theorem PySem.Challenge.cw_lietable_k02_votes_holds : PySem.Challenge.rw_lietable_k02_votes.Holds := by
  w_on; o_law
  refine HandSHeadRun.head_any (r := OpenLaw.row PySem.Challenge.rw_lietable_k02_votes) (q := view (OpenLaw.row PySem.Challenge.rw_lietable_k02_votes).prog [7]) (H := LK.hk) (ob := LK.ob) (M := 600) (loose := LK.names) (d := HandSHeadRun.topDef (OpenLaw.row PySem.Challenge.rw_lietable_k02_votes).prog 7) (kwd := []) LK.ob_eq
    (by kernel_rfl) (fun s => by kernel_rfl) LK.run (by kernel_rfl) (by kernel_rfl) (by kernel_rfl) (by rfl) (by first | assumption | decide +kernel) (by decide +kernel) ⟨rfl, rfl, rfl, rfl, rfl, by decide +kernel⟩ ?hw ?hc
  case hw => w_witness2
  case hc =>
    refine L2.walk_ofE (l := PySem.Challenge.rw_lietable_k02_votes) (n := 63) (k := 2) (x := "_law_script") (CX := L2.CX0) rfl (by decide) (by kernel_rfl) ⟨rfl, by decide, by decide⟩ ?F (fun _ _ _ _ z => z)
    intro w mg fa h Y G hmg0
    obtain ⟨K, KX, c⟩ := Y
    have hmg : mg ("law" : PySem.Str) = some (.ref fa) := by
      have e : (HandSHeadRun.topDef (OpenLaw.row PySem.Challenge.rw_lietable_k02_votes).prog 7).name = ("law" : PySem.Str) := by kernel_rfl
      rw [← e]
      exact hmg0
    obtain ⟨fd, hb, hF⟩ := LK.facts (P := (PySem.Challenge.rw_lietable_k02_votes).prog) (w := w) KX G hmg c
    exact ⟨K, fd, LT.sp_law ⟨(PySem.Challenge.rw_lietable_k02_votes).prog, w, K⟩, KX, hb, fun H a ns hl _ hS => ⟨a, ns, rfl, hS, hl, fun _ => rfl⟩, hF⟩
